/-
  A part put to parts, parts joined: both programs the same.
-/
import Derived.Test.YtjjmipjhddlncaaGreatDoorR06
import Derived.Test.YtjjmipjhddlncaaGreatDoorR05
import Derived.Lib.Join
set_option linter.all false
noncomputable section
open Go.IntKind (wrap)
namespace Go.Pev.F
variable {d:aE} {k i at_:Nat} {n:bA} {e:bc} {t:List cG} {leaf al v:Int} {l:List aI} {s:List aI×List aI} {a b:bq} {p:aI} {α:Type} {c:Bool}
def Lv (x y:cG):jY y x= -jY x y:=by
 unfold jY
 repeat' split
 all_goals omega
def BE:∀(a b:List cG),nJ b a= -nJ a b
 |[],[]=>rfl
 |[],_::_=>rfl
 |_::_,[]=>rfl
 |x::a,y::b=>by
  simp only[nJ,Lv x y];by_cases h:jY x y=0
  ·rw[a0f h,ifPosQ,BE a b]
  ·rw[a0d h,ifNegQ]
def pr (a b:List cG):da b a= -da a b:=by
 unfold da;rw[BE a b]
 repeat' split
 all_goals omega
def O7 {a b c:List cG} (h:da a b>0) (d:da a c<0):da c b>0:=by
 have e:da b a<0:=by rw[pr a b];omega
 have f:=rO e (Int.le_of_lt d);rw[pr b c];omega
def Ia (k:Nat) (D:4194304<k) (l:List aI) (v:jk l) (G:l.Pairwise λp q=>da p.1 q.1<0) (t:List cG):∀(n i j f:Nat),j-i<=n->n<f->i<=j->j<=l.length->(∀x (e:x<l.length),x<i->da l[x].1 t<0)->(∀x (e:x<l.length),j<=x->da l[x].1 t>=0)->∃(m:Nat) (b:Bool),aH (xO.l0 k) f (l,t,(()),(l.length:Int),(i:Int),(j:Int),())=some (((m:Int),b,()),((),(),(()),()))/\m<=l.length/\(∀x (e:x<l.length),x<m->da l[x].1 t<0)/\(∀x (e:x<l.length),m<=x->da l[x].1 t>=0)/\b=(if h:m<l.length then da l[m].1 t==0 else false):=by
 have K:=v.n;have o:=a7i.1 G;intro n
 induction n with
 |zero=>
  intro i j f w H E r s u;obtain⟨f,rfl⟩:∃g,f=g+1:=⟨f-1,by omega⟩;obtain rfl:i=j:=by omega
  have y:¬((i:Int)<(i:Int)):=by omega
  have z:(0:Int)<=(i:Int):=by omega
  rw[aD];simp only[xO.l0,Hu,ap,a0d y,a0f z,a0i];by_cases a:i<l.length
  ·have d:(i:Int)<(l.length:Int):=by omega
   have A:=qx k D l[i].1 t (v.t _ (a0n a));simp only[a0f d,a0a a,ac,A,a0c];exact⟨i,_,rfl,r,s,u,by rw[a8e a]⟩
  ·have d:¬(i:Int)<(l.length:Int):=by omega
   simp only[a0d d,a0c];exact⟨i,false,rfl,r,s,u,by rw[dif_neg a]⟩
 |succ n ih=>
  intro i j f w H E r s u;by_cases F:i<j
  ·obtain⟨f,rfl⟩:∃g,f=g+1:=⟨f-1,by omega⟩
   obtain⟨h,L⟩:∃h,h=(i+j)/2:=⟨_,rfl⟩;have a:h<l.length:=by omega
   have y:((i:Int)<(j:Int)):=by omega
   have c1:(0:Int)<=1:=by decide
   have z:(0:Int)<=(h:Int):=by omega
   have I:((2:Int)^(min (1:Int).toNat 64))=2:=by decide
   have J:wrap .i64 ((wrap .u64 (wrap .i64 ((i:Int)+(j:Int)))).fdiv (2^(min (1:Int).toNat 64)))=(h:Int):=by
    rw[I,aj (n:=(i:Int)+(j:Int)) (by omega) (by omega),gW,a6z _ (by decide),aj (by omega) (by omega)];omega
   have A:=qx k D l[h].1 t (v.t _ (a0n a));rw[aD];simp only[xO.l0,Hu,ap,a0f y,a0f c1,J,a0f z,a0i,a0a a,ac,A];by_cases c:da l[h].1 t<0
   ·rw[a0f c,aB]
    refine ih (h+1) j f (by omega) (by omega) (by omega) r (λx e B=> ?_) u;by_cases C:x=h
    ·subst C;exact c
    ·exact rO (o x h e a (by omega))
   ·rw[a0d c]
    refine ih i h f (by omega) (by omega) (by omega) (by omega) s (λx e B=> ?_);by_cases C:x=h
    ·subst C;omega
    ·by_cases M:da l[x].1 t<0
     ·exact absurd (rO (o h x a e (by omega))) c
     ·omega
  ·exact ih i j f (by omega) (by omega) E r s u
def f7 (w:Option (List Int)):List aI->aI->List aI
 |[],p=>[p]
 |q::l,p=>if da q.1 p.1<0 then q::f7 w l p else if da q.1 p.1=0 then(q.1,iM w q.2.1 p.2.1,())::l else p::q::l
def yJ (w:Option (List Int)) (a b:List aI):List aI:=b.foldl (f7 w) a
abbrev Ib (l:List aI):Prop:=l.Pairwise λp q=>da p.1 q.1<0
def yK (w:Option (List Int)):∀(l:List aI) (p:aI),(f7 w l p).length<=l.length+1
 |[],p=>by simp[f7]
 |q::l,p=>by
  have:=yK w l p;simp only[f7];split
  ·simp only[a0h];omega
  split
  ·simp only[a0h];omega
  ·simp
def I5 {w:Option (List Int)} {p:aI}:∀(l:List aI) (m:Nat) (a:m<l.length),(∀x (c:x<l.length),x<m->da l[x].1 p.1<0)->da l[m].1 p.1=0->f7 w l p=l.set m (l[m].1,iM w l[m].2.1 p.2.1,())
 |q::l,0,a,_,h0=>by
  have b:da q.1 p.1=0:=h0;simp only[f7,a7w,List.set_cons_zero];rw[ifNegQ,a0f b]
 |q::l,m+1,a,hlo,h0=>by
  have d:da q.1 p.1<0:=hlo 0 (by simp) (by omega);simp only[f7,a7x,a7d];rw[a0f d,I5 l m (by simpa using a) (λx c e=>hlo (x+1) (by simpa using c) (by omega)) h0]
def yL {w:Option (List Int)} {p:aI}:∀(l:List aI) (m:Nat) (a:m<=l.length),(∀x (b:x<l.length),x<m->da l[x].1 p.1<0)->(∀h:m<l.length,da l[m].1 p.1>0)->f7 w l p=l.take m++[p]++l.drop m
 |[],0,a,_,_=>by simp[f7]
 |q::l,0,a,_,h0=>by
  have c:da q.1 p.1>0:=h0 (by simp);simp only[f7];rw[ifNegQ,ifNegQ];simp
 |q::l,m+1,a,hlo,h0=>by
  have d:da q.1 p.1<0:=hlo 0 (by simp) (by omega);simp only[f7];rw[a0f d,yL l m (by simpa using a) (λx b e=>hlo (x+1) (by simpa using b) (by omega)) (λh=>h0 (by simpa using h))];simp
structure fP (d:aE) (p:aI):Prop where
 t:aZ p.1=true
 m:nD d p.2.1
structure eK (d:aE) (l:List aI):Prop where
 p:∀x∈l,fP d x
 r:Ib l
def rQ {w:Option (List Int)} {p x:aI}:∀ {l:List aI},x∈f7 w l p->x∈l\/x=p\/∃q∈l,q.1=p.1/\x=(q.1,iM w q.2.1 p.2.1,())
 |[],h=>by simp[f7]at h;exact Or.inr (Or.inl h)
 |q::l,h=>by
  simp only[f7]at h;split at h
  ·rcases a1j.1 h with h|h
   ·exact Or.inl (by simp[h])
   ·rcases rQ h with h|h|⟨z,hz,h⟩
    ·exact Or.inl (by simp[h])
    ·exact Or.inr (Or.inl h)
    ·exact Or.inr (Or.inr ⟨z,by simp[hz],h⟩)
  split at h
  ·rename_i b a
   rcases a1j.1 h with h|h
   ·exact Or.inr (Or.inr ⟨q,by simp,BD a,h⟩)
   ·exact Or.inl (by simp[h])
  ·rcases a1j.1 h with h|h
   ·exact Or.inr (Or.inl h)
   ·exact Or.inl h
def BF {w:Option (List Int)} {p:aI}:∀ {l:List aI},Ib l->Ib (f7 w l p)
 |[],_=>by simp[f7,Ib]
 |q::l,h=>by
  obtain⟨c,d⟩:=a4i.1 h;simp only[f7];split
  ·rename_i e
   refine a4i.2 ⟨λz a=> ?_,BF d⟩;rcases rQ a with h|h|⟨y,hy,_,h⟩
   ·exact c z h
   ·rw[h];exact e
   ·rw[h];exact c y hy
  split
  ·exact a4i.2 ⟨λz a=>c z a,d⟩
  ·rename_i e f
   have b:da p.1 q.1<0:=by rw[pr q.1 p.1];omega
   refine a4i.2 ⟨λz a=> ?_,h⟩;rcases a1j.1 a with h|h
   ·rw[h];exact b
   ·exact rO b (Int.le_of_lt (c z h))
def BG {w:Option (List Int)} (c:Q1 w) (a:eK d l) (b:fP d p):eK d (f7 w l p):=by
 refine⟨λx e=> ?_,BF a.r⟩;rcases rQ e with h|h|⟨q,hq,_,h⟩
 ·exact a.p x h
 ·rw[h];exact b
 ·rw[h];exact⟨(a.p q hq).t,Lq c (a.p q hq).m b.m⟩
def BH {d:aE} {w:Option (List Int)} (c:Q1 w):∀ {b a:List aI},eK d a->(∀x∈b,fP d x)->eK d (yJ w a b)
 |[],a,ha,_=>ha
 |p::b,a,ha,hb=>BH c (b:=b) (BG c ha (hb p (by simp))) (λx e=>hb x (by simp[e]))
def Fx (w:Option (List Int)):∀(b a:List aI),(yJ w a b).length<=a.length+b.length
 |[],a=>a1m _
 |p::b,a=>by
  have c:=Fx w b (f7 w a p);have d:=yK w a p;simp only[yJ,a1t,a0h]at c⊢;omega
def lA (h:aZ t=true):t.length<=3:=by
 simp only[aZ,a0e,a0v]at h;exact h.1
def Fy (b:aO d=true) (h:eK d l) (c:l.length<=1048576:=by omega):jk l:=⟨c,λp a=>by have:=lA (h.p p a).t;omega,λp a=>by have:=fY b (h.p p a).m;omega,λp a e f=>(bD b ((h.p p a).m.e e f)).1⟩
def uY (t:List cG) (h:t.length<=1000):EA k (t,())=some ((t,()),((),())):=by
 unfold EA;have a:(([]:List cG).length+t.length)*16<=ag:=by simp only[a0g,ag];omega
 cases t with
 |nil=>simp[ag,nh]
 |cons x r=>simp only[List.isEmpty_cons,ah,a0b a,ai,a1s]
def yM (h:1000<k) (f:aO d=true) (a:fP d p):sU k (p,())=some ((p,()),((),())):=by
 have l1:=fY f a.m;have l2:=lA a.t;simp only[sU,uY p.1 (show p.1.length<=1000 by omega),ac];refine Eq.trans (bg (b:=sU.l0 k) (λi=>(([],[],()),(p.1,p.2.1.take i,()),p.2.1,(p.2.1.length:Int),(i:Int),())) p.2.1.length (r:=some ((p,()),((),()))) (λG i c=> ?_) (λG=> ?_) (by omega)) rfl
 ·have g:=qv k p.2.1[i] (bD f (a.m.e _ (a0n c))).1
  simp only[sU.l0];rw[a0b (show(i:Int)<(p.2.1.length:Int) by omega),a0b (show(0:Int)<=(i:Int) by omega)];simp only[ai,a0i,a0a c,ac,g];rw[a0b (by simp only[a0h,a0g,a1h,ag];omega),ai,aB (i:=i)];have:p.2.1.take i++[p.2.1[i]]=p.2.1.take (i+1):=a2t c;rw[<-this]
 ·simp only[sU.l0]
  rw[a0m (show¬(p.2.1.length:Int)<(p.2.1.length:Int) by omega),ah,a1i]
def Fz (g:1048576<k) (c:aO d=true) (e:∀p∈l,fP d p) (h:l.length<=100000):xN k (l,())=some ((l,()),((),())):=by
 simp only[xN];refine Eq.trans (bg (b:=xN.l0 k) (λi=>(l.take i,l,(l.length:Int),(i:Int),())) l.length (r:=some ((l,()),((),()))) (λG i a=> ?_) (λG=> ?_) (by omega)) rfl
 ·have f:=yM (k:=k) (by omega) c (e _ (a0n a))
  simp only[xN.l0];rw[a0b (show(i:Int)<(l.length:Int) by omega),a0b (show(0:Int)<=(i:Int) by omega)];simp only[ai,a0i,a0a a,ac,f];rw[a0b (by simp only[a0h,a0g,a1h,ag];omega),ai,aB (i:=i)];have:l.take i++[l[i]]=l.take (i+1):=a2t a;rw[<-this]
 ·simp only[xN.l0]
  rw[a0m (show¬(l.length:Int)<(l.length:Int) by omega),ah,a1i]
def NB (e:4194304<k) (c:jk l) (f:Ib l) (t:List cG):∃(m:Nat),EH k (l,t,())=some (((m:Int),(if h:m<l.length then da l[m].1 t==0 else false),()),((),(),()))/\m<=l.length/\(∀x (d:x<l.length),x<m->da l[x].1 t<0)/\(∀x (d:x<l.length),m<=x->da l[x].1 t>=0):=by
 obtain⟨m,b,g,i,j,o,p⟩:=Ia k e l c f t l.length 0 l.length k (by omega) (by have:=c.n;omega) (by omega) (a1m _) (λx _ h=>by omega) (λx d h=>by omega);refine⟨m,?_,i,j,o⟩;unfold EH xO;have a:aH (xO.l0 k) k (l,t,(()),(l.length:Int),0,(l.length:Int),())=some (((m:Int),b,()),((),(),(()),())):=g;simp only[a,ac,p]
def Qb (i:4194304<k) (j:aO d=true) (w:Option (List Int)) (g:eK d l) (o:l.length<=100000) (p:aI):∃m:Nat,(∃h:m<l.length,EH k (l,p.1,())=some (((m:Int),true,()),((),(),()))/\f7 w l p=l.set m (l[m].1,iM w l[m].2.1 p.2.1,()))\/(m<=l.length/\EH k (l,p.1,())=some (((m:Int),false,()),((),(),()))/\f7 w l p=l.take m++[p]++l.drop m):=by
 obtain⟨m,a,c,e,n⟩:=NB i (Fy j g) g.r p.1;refine⟨m,?_⟩;by_cases b:m<l.length
 ·rw[a8e b]at a
  by_cases f:da l[m].1 p.1=0
  ·left
   rw[f]at a;exact⟨b,a,I5 l m b e f⟩
  ·right
   have:(da l[m].1 p.1==0)=false:=by simpa using f
   rw[this]at a;exact⟨c,a,yL l m c e (λh=>by have:=n m b (a1m _);omega)⟩
 ·right
  rw[dif_neg b]at a;exact⟨c,a,yL l m c e (λh=>absurd h b)⟩
def NC (w:Option (List Int)) (a b:List aI) (c:i<b.length):yJ w a (b.take (i+1))=f7 w (yJ w a (b.take i)) b[i]:=by
 unfold yJ;rw[a2m c,a3g];rfl
def Lw (k:Nat) (l:List aI) {m:Nat} (a:m<=l.length) (p:aI) (b:l.length<=100000):Lb.slices_Insert_impl_Part_impl_Part k (l,(m:Int),[p],())=some ((l.take m++[p]++l.drop m,()),((),(),(),())):=by
 show iI _ _ _=_;unfold iI;rw[a0f ⟨by show(0:Int)<=(m:Int);omega,by show(m:Int)<=(l.length:Int);omega,by show 0<([p]:List aI).length;simp,by show(l.length+([p]:List aI).length)*48<=140737488355328;simp only[a0h,a0g];omega⟩];rfl
def As (v:4194304<k) (f:aO d=true) {a b:List aI} (s:eK d a) (t:∀x∈b,fP d x) (z:a.length+b.length<=100000):oG k (a,b,(),())=some ((yJ none a b,()),((),(),(),())):=by
 simp only[oG,Fz (show 1048576<k by omega) f s.p (show a.length<=100000 by omega),ac];refine Eq.trans (bg (b:=oG.l0 k) (λi=>((),yJ none a (b.take i),b,(b.length:Int),(i:Int),())) b.length (r:=some ((yJ none a b,()),((),(),(),()))) (λG i j=> ?_) (λG=> ?_) (by omega)) rfl
 ·have u:=BH (d:=d) (w:=none) (λst h=>by cases h) (b:=b.take i) s (λx y=>t x (a3h y))
  have c:=Fx none (b.take i) a;rw[a1h]at c;have e:=t _ (a0n j);have l:=yM (k:=k) (by omega) f e;rw[NC none a b j];simp only[oG.l0];rw[a0b (show(i:Int)<(b.length:Int) by omega),a0b (show(0:Int)<=(i:Int) by omega)];simp only[ai,a0i,a0a j,ac];rw[aB (i:=i)];obtain⟨m,⟨g,n,o⟩|⟨g,n,o⟩⟩:=Qb v f none u (by omega) b[i]
  ·have q:=Fp (k:=k) (by omega) f (u.p _ (a0n g)).m e.m
   rw[o];simp only[n,ac,ai,a0i,a0a g,q];rw[a0b (show 0<=(m:Int)/\(m:Int)<((yJ none a (b.take i)).length:Int) by omega)];simp only[ai]
  ·rw[o]
   simp only[n,ac,ah,l,Lw k _ g b[i] (by omega)]
 ·simp only[oG.l0]
  rw[a0m (show¬(b.length:Int)<(b.length:Int) by omega),ah,a1i]
def I6 (w:Option (List Int)):Bool:=w.isSome
def Ic (w:Option (List Int)) (z:List Int):List Int:=w.getD z
def Dp (M:4194304<k) (J:aO d=true) (w:Option (List Int)) (z:List Int) (K:eK d l) (Q:l.length<=100000) (G:fP d p):∀(n i f:Nat) (a:List aI) (done:Bool),i+n=l.length->n<f->a.length<=i+cond done 1 0->(done=true->∀q∈l.drop i,da q.1 p.1>0)->aH (CN.l0 k) f (l,I6 w,Ic w z,p,a,done,(i:Int),())=some ((a++cond done (l.drop i) (f7 w (l.drop i) p),()),((),(),(),(),())):=by
 have x:∀(o:List aI) (q:aI),o.length<=200002->(o.length+([q]:List aI).length)*48<=ag:=by intro o q h;simp only[a0h,a0g,ag];omega
 have c1:cond true 1 0=1:=rfl;have C:cond false 1 0=0:=rfl;have L:∀b:Bool,cond b 1 0<=1:=λb=>by cases b<;>simp
 intro n
 induction n with
 |zero=>
  intro i f a done hi hf ho hd';have:=L done;obtain⟨f,rfl⟩:∃g,f=g+1:=⟨f-1,by omega⟩;rw[aD,a2c (by omega)];simp only[CN.l0];rw[a0m (show¬(i:Int)<(l.length:Int) by omega),ah]
  cases done
  ·rw[a0u,ai,a0b (x a (p.1,p.2.1,()) (by omega)),ai]
   rfl
  ·rw[a0o,ah,a1c,a2b]
 |succ n ih=>
  intro i f a done hi hf ho hd';have N:=L done;obtain⟨f,rfl⟩:∃g,f=g+1:=⟨f-1,by omega⟩;have y:i<l.length:=by omega
  have v:l.drop i=l[i]::l.drop (i+1):=a1d y;have A:=K.p _ (a0n y);have D:=qy k M l[i].1 p.1 A.t G.t;have O:=Fq (k:=k) (by omega) J A.m G.m;have s:Ib (l.drop i):=List.Pairwise.sublist (a7n i l) K.r;rw[v]at s;have j:=(a4i.1 s).1;rw[aD];simp only[CN.l0];rw[a0b (show(i:Int)<(l.length:Int) by omega),a0b (show 0<=(i:Int) by omega)];simp only[ai,a0i,a0a y,ac,D,O];rw[aB (i:=i),v];by_cases E:da l[i].1 p.1=0
  ·have B:done=false:=by
    cases done with
    |false=>rfl
    |true=>have:=hd' rfl l[i] (by rw[v];exact a5l);omega
   subst B;rw[E];have c:∀q∈l.drop (i+1),da q.1 p.1>0:=λq H=>by
    have:=j q H;rw[BD E]at this;rw[pr p.1 q.1];omega
   have e:f7 w (l[i]::l.drop (i+1)) p=(l[i].1,iM w l[i].2.1 p.2.1,())::l.drop (i+1):=by
    simp only[f7];rw[ifNegQ,a0f E]
   have P:decide ((0:Int)>0)=false:=rfl;have F:((0:Int)==0)=true:=rfl;rw[P,F];simp only[ah,ai,a0c,a1q];rw[e]
   cases w with
   |none=>
    have:=ih (i+1) f (a++[(l[i].1,iM none l[i].2.1 p.2.1,())]) true (by omega) (by omega) (by simp only[a0j,a0h,a0g];simp only[c1,C]at ho⊢;omega) (λ_=>c);rw[show I6 none=false from rfl]at this⊢;rw[ah,a0b (x a _ (by omega)),ai];refine Eq.trans this ?_
    rw[a1c,a1u];rfl
   |some st=>
    have I:=Fs (k:=k) (by omega) st J A.m G.m;have:=ih (i+1) f (a++[(l[i].1,iM (some st) l[i].2.1 p.2.1,())]) true (by omega) (by omega) (by simp only[a0j,a0h,a0g];simp only[c1,C]at ho⊢;omega) (λ_=>c);rw[show I6 (some st)=true from rfl,show Ic (some st) z=st from rfl]at this⊢;rw[ai,I,ac,a0b (x a _ (by omega)),ai];refine Eq.trans this ?_
    rw[a1c,a1u];rfl
  ·have F:(da l[i].1 p.1==0)=false:=by simpa using E
   by_cases u:da l[i].1 p.1>0
   ·have c:∀q∈l.drop (i+1),da q.1 p.1>0:=λq H=>by
     have:=j q H;exact O7 u this
    have e:f7 w (l[i]::l.drop (i+1)) p=p::l[i]::l.drop (i+1):=by
     simp only[f7];rw[ifNegQ,a0d E]
    rw[a0b u,F,ai,a0c]
    cases done
    ·have:=ih (i+1) f (a++[p]++[l[i]]) true (by omega) (by omega) (by simp only[a0j,a0h,a0g];simp only[c1,C]at ho⊢;omega) (λ_=>c)
     rw[a0u,ai,a0b (x a _ (by omega)),ai,ah,a0b (x (a++[p]) _ (by simp;omega)),ai];refine Eq.trans this ?_
     rw[a1c,a1q,e];simp
    ·have:=ih (i+1) f (a++[l[i]]) true (by omega) (by omega) (by simp only[a0j,a0h,a0g];simp only[c1,C]at ho⊢;omega) (λ_=>c)
     rw[a0o,ah,ah,a0b (x a _ (by omega)),ai];refine Eq.trans this ?_
     rw[a1c,a1c];simp
   ·have B:done=false:=by
     cases done with
     |false=>rfl
     |true=>have:=hd' rfl l[i] (by rw[v];exact a5l);omega
    subst B;have e:f7 w (l[i]::l.drop (i+1)) p=l[i]::f7 w (l.drop (i+1)) p:=by
     simp only[f7];rw[ifPosQ]
    have:=ih (i+1) f (a++[l[i]]) false (by omega) (by omega) (by simp only[a0j,a0h,a0g];simp only[c1,C]at ho⊢;omega) (λh=>by cases h);rw[a0m u,F,ah,a0c,ah,ah,a0b (x a _ (by omega)),ai];refine Eq.trans this ?_
    rw[a1q,a1q,e];simp
def Id (a:4194304<k) (b:aO d=true) (w:Option (List Int)) (z:List Int) (c:eK d l) (e:l.length<=100000) (f:fP d p):CN k (l,p,I6 w,Ic w z,())=some ((f7 w l p,()),((),(),(),(),())):=by
 have h:=Dp a b w z c e f l.length 0 k [] false (by omega) (by omega) (a4j _) (λh=>by cases h);simp only[CN];refine Eq.trans h ?_
 rfl
def FA (h:1000<k) (f:aO d=true) (a:fP d p):Hy k (p,())=some ((p,()),((),())):=by
 have l1:=fY f a.m;have l2:=lA a.t;simp only[Hy];rw[a0b (show(([]:List cG).length+p.1.length)*16<=ag by simp only[a0g,ag];omega),ai,a1s];refine Eq.trans (bg (b:=Hy.l0 k) (λi=>((p.1,p.2.1,()),([],[],()),(p.1,p.2.1.take i,()),(i:Int),())) p.2.1.length (r:=some ((p,()),((),()))) (λG i c=> ?_) (λG=> ?_) (by omega)) rfl
 ·have g:=kf k p.2.1[i] (bD f (a.m.e _ (a0n c))).1
  simp only[Hy.l0];rw[a0b (show(i:Int)<(p.2.1.length:Int) by omega),a0b (show(0:Int)<=(i:Int) by omega)];simp only[ai,a0i,a0a c,ac,g];rw[a0b (by simp only[a0h,a0g,a1h,ag];omega),ai,aB (i:=i)];have:p.2.1.take i++[p.2.1[i]]=p.2.1.take (i+1):=a2t c;rw[<-this]
 ·simp only[Hy.l0]
  rw[a0m (show¬(p.2.1.length:Int)<(p.2.1.length:Int) by omega),ah,a1i]
def ND (g:1048576<k) (c:aO d=true) (e:∀p∈l,fP d p) (h:l.length<=100):EO k (l,())=some ((l,()),((),())):=by
 simp only[EO];refine Eq.trans (bg (b:=EO.l0 k) (λi=>(l,l.take i,(i:Int),())) l.length (r:=some ((l,()),((),()))) (λG i a=> ?_) (λG=> ?_) (by omega)) rfl
 ·have f:=FA (k:=k) (by omega) c (e _ (a0n a))
  simp only[EO.l0];rw[a0b (show(i:Int)<(l.length:Int) by omega),a0b (show(0:Int)<=(i:Int) by omega),a0b (show(l.length:Int)<=100 by omega)];simp only[ai,a0c,a0i,a0a a,ac,f];rw[a0b (by simp only[a0h,a0g,a1h,ag];omega),ai,aB (i:=i)];have:l.take i++[l[i]]=l.take (i+1):=a2t a;rw[<-this]
 ·simp only[EO.l0]
  rw[a0m (show¬(l.length:Int)<(l.length:Int) by omega),ah,a0c,ah,a1i]
def dt (d:aE) (l:List cL):Ex:=open Classical in if h:bV d l≠0 then Classical.choose (Bq h)else .leaf (0,0,())
def dV {l:List cL} (h:bV d l≠0):(dt d l).Ok d/\l=(dt d l).flat/\bV d l=(dt d l).kind/\(dt d l).size<=40:=by
 unfold dt;rw[a8e h];exact Classical.choose_spec (Bq h)
def k0 (t:List cG) (a b:Int):List cG:=cond (aZ t&& aZ [(a,b,())]) (if t.length<3 then t++[(a,b,())]else t) []
def eZ (t:List cG) (a:Int):Int:=t.foldl (λn x=>n+pD (x.1==a)) 0
def jZ (t:List cG) (a b:Int):aZ (k0 t a b)=true:=by
 unfold k0
 cases h:(aZ t&& aZ [(a,b,())])
 ·rfl
 ·simp only[a0e]at h
  simp only[a1c];split
  ·simp only[aZ,a0e,a0v,a6i,a0j,a0h,a0g]at h⊢
   exact⟨by omega,h.1.2,h.2.2⟩
  ·exact h.1
def oS (d:4194304<k) (t:List cG) (a b:Int):xC k (t,a,b,())=some ((k0 t a b,()),((),(),(),())):=by
 simp only[xC,oO k d,ac,k0]
 cases h1:aZ t
 ·simp
 ·have e:=lA h1
  cases h2:aZ [(a,b,())]
  ·simp
  ·simp only[a0o,ah,uY t (show t.length<=1000 by omega),ac,a3t,a1c]
   by_cases c:t.length<3
   ·rw[a0f c,a0b (show(t.length:Int)<3 by omega),ai,a0b (by simp only[a0h,a0g,ag];omega),ai]
   ·rw[a0d c,a0m (show¬(t.length:Int)<3 by omega),ah]
def oT (d:4194304<k) (t:List cG) (a b:Int):CD k (t,a,b,())=some ((k0 t a b,()),((),(),(),())):=by
 simp only[CD,kL k d,ac,k0]
 cases h1:aZ t
 ·simp
 ·have e:=lA h1
  cases h2:aZ [(a,b,())]
  ·simp
  ·simp only[a0o,ah,ac,a3t,a1c,a1s,a0g]
   rw[a0b (show(0+t.length)*16<=ag by unfold ag;omega),ai];by_cases c:t.length<3
   ·rw[a0f c,a0b (show(t.length:Int)<3 by omega),ai,a0b (by simp only[a0h,a0g,ag];omega),ai]
   ·rw[a0d c,a0m (show¬(t.length:Int)<3 by omega),ah]
def yN (a:Int):∀(t:List cG) (n:Int),n<=t.foldl (λn x=>n+pD (x.1==a)) n/\t.foldl (λn x=>n+pD (x.1==a)) n<=n+t.length
 |[],n=>by simp
 |x::t,n=>by
  have:=yN a t (n+pD (x.1==a));have b:0<=pD (x.1==a)/\pD (x.1==a)<=1:=by unfold pD;cases (x.1==a)<;>simp
  simp only[a1t,a0h];omega
def At (e:1000<k) (f:t.length<=3) (a:Int):xD k (t,a,())=some ((eZ t a,()),((),(),())):=by
 simp only[xD];refine Eq.trans (bg (b:=xD.l0 k) (λi=>(a,eZ (t.take i) a,t,(t.length:Int),(i:Int),())) t.length (r:=some ((eZ t a,()),((),(),()))) (λG i c=> ?_) (λG=> ?_) (by omega)) rfl
 ·have d:=yN a (t.take i) 0
  rw[a1h]at d;have g:0<=pD (t[i].1==a)/\pD (t[i].1==a)<=1:=by unfold pD;cases (t[i].1==a)<;>simp
  simp only[xD.l0];rw[a0b (show(i:Int)<(t.length:Int) by omega),a0b (show(0:Int)<=(i:Int) by omega)];simp only[ai,a0i,a0a c,ac,pn];rw[aB (i:=i),show eZ (t.take (i+1)) a=eZ (t.take i) a+pD (t[i].1==a) by unfold eZ;rw[gu _ _ _ c],aj (by unfold eZ;omega) (by unfold eZ;omega)]
 ·simp only[xD.l0]
  rw[a0m (show¬(t.length:Int)<(t.length:Int) by omega),ah,a1i]
def Au (e:1000<k) (f:t.length<=3) (a:Int):xm k (t,a,())=some ((eZ t a,()),((),(),())):=by
 simp only[xm];refine Eq.trans (bg (b:=xm.l0 k) (λi=>(t,a,eZ (t.take i) a,(i:Int),())) t.length (r:=some ((eZ t a,()),((),(),()))) (λG i c=> ?_) (λG=> ?_) (by omega)) rfl
 ·have d:=yN a (t.take i) 0
  rw[a1h]at d;have g:0<=pD (t[i].1==a)/\pD (t[i].1==a)<=1:=by unfold pD;cases (t[i].1==a)<;>simp
  simp only[xm.l0];rw[a0b (show(i:Int)<(t.length:Int) by omega),a0b (show(0:Int)<=(i:Int) by omega)];simp only[ai,a0i,a0a c,ac,ym];rw[aB (i:=i),show eZ (t.take (i+1)) a=eZ (t.take i) a+pD (t[i].1==a) by unfold eZ;rw[gu _ _ _ c],aj (by unfold eZ;omega) (by unfold eZ;omega)]
 ·simp only[xm.l0]
  rw[a0m (show¬(t.length:Int)<(t.length:Int) by omega),ah,a1i]
def jO (d:aE) (leaf:Int) (e:bc):List bc:=(List.replicate (2^d.2.1.length) bm).set leaf.toNat e
def vu (d:aE) (l:List aI) (t:List cG) (leaf:Int) (e:bc):List aI:=cond e.1 (f7 none l (t,jO d leaf e,())) l
abbrev m7:=Bool×List cG×Int×bc
def bM (d:aE) (s:List aI×List aI) (a:m7):List aI×List aI:=cond a.1 (vu d s.1 a.2.1 a.2.2.1 a.2.2.2,s.2) (s.1,vu d s.2 a.2.1 a.2.2.1 a.2.2.2)
def dv (d:aE) (leaf:Int):Prop:=0<=leaf/\leaf<2^d.2.1.length
structure rR (d:aE) (a:m7):Prop where
 t:aZ a.2.1=true
 l:dv d a.2.2.1
 e:aV d a.2.2.2
def lB (a:aV d e):nD d (jO d leaf e):=by
 refine⟨by simp[jO],λx b=> ?_⟩;rcases a2s b with h|h
 ·rw[List.eq_of_mem_replicate h];exact dN d
 ·rw[h];exact a
def tC (a:eK d l) (b:aZ t=true) (leaf:Int) (c:aV d e):eK d (vu d l t leaf e):=by
 unfold vu
 cases e.1
 ·exact a
 ·exact BG (λst h=>by cases h) a ⟨b,lB c⟩
def yO (d:aE) (l:List aI) (t:List cG) (leaf:Int) (e:bc):(vu d l t leaf e).length<=l.length+1:=by
 unfold vu
 cases e.1
 ·exact Nat.le_succ _
 ·exact yK _ _ _
structure ge (d:aE) (s:List aI×List aI):Prop where
 a:eK d s.1
 b:eK d s.2
def pt (c:ge d s) {a:m7} (f:rR d a):ge d (bM d s a):=by
 unfold bM
 cases a.1
 ·exact⟨c.a,tC c.b f.t _ f.e⟩
 ·exact⟨tC c.a f.t _ f.e,c.b⟩
def yP (d:aE) (s:List aI×List aI) (a:m7):(bM d s a).1.length+(bM d s a).2.length<=s.1.length+s.2.length+1:=by
 unfold bM
 cases a.1
 ·have:=yO d s.2 a.2.1 a.2.2.1 a.2.2.2;simp only[a1q];omega
 ·have:=yO d s.1 a.2.1 a.2.2.1 a.2.2.2;simp only[a1c];omega
def iw {d:aE}:∀ {l:List m7} {s:List aI×List aI},ge d s->(∀a∈l,rR d a)->ge d (l.foldl (bM d) s)
 |[],s,hs,_=>hs
 |a::l,s,hs,ha=>iw (l:=l) (pt hs (ha a (by simp))) (λx b=>ha x (by simp[b]))
def kO (d:aE):∀(l:List m7) (s:List aI×List aI),(l.foldl (bM d) s).1.length+(l.foldl (bM d) s).2.length<=s.1.length+s.2.length+l.length
 |[],s=>a1m _
 |a::l,s=>by
  have b:=kO d l (bM d s a);have c:=yP d s a;simp only[a1t,a0h];omega
def rS (d:aE) (e:bc) (v:Int) (place a:bq):bc:=match d.2.2.1[v.toNat]? with
 |some x=>cond (eB x place) (e.1,e.2.1,e.2.2.1.set v.toNat (if x.2.1=1 then a else eX (e.2.2.1.getD v.toNat dA) a),()) bm
 |none=>bm
def oU (d:aE) (v:Int) (place:bq):Int:=match d.2.2.1[v.toNat]? with
 |some x=>hY x place
 |none=>0
def QN (v:Int):Int:=wrap .i64 (1*2^(min v.toNat 64))
def kP (leaf v:Int):Int:=wrap .i64 (((BitVec.ofInt 64 leaf|||BitVec.ofInt 64 (QN v)).toNat:Int))
def m8 (leaf v:Int):Int:=wrap .i64 (((BitVec.ofInt 64 leaf&&& ~~~BitVec.ofInt 64 (QN v)).toNat:Int))
def ee (n:bA) (e:bc):Da:=dR (e.2.1.getD n.2.1.toNat dA) (-9223372036854775808,n.2.2.2.2.1-1,())
def eL (n:bA) (e:bc):Da:=dR (e.2.1.getD n.2.1.toNat dA) (n.2.2.2.2.2.1+1,9223372036854775807,())
def uZ (n:bA) (e:bc):bc:=cE (cond (ee n e).2.1 (aT e n.2.1 (ee n e).1) bm) (cond (eL n e).2.1 (aT e n.2.1 (eL n e).1) bm)
def dl (n:bA) (at_:Int) (t:List cG) (leaf:Int) (e:bc) (i:Nat):m7:=(false,k0 t at_ (i:Int),leaf,cond (eu (e.2.1.getD n.2.1.toNat dA) (n.2.2.2.2.1+(i:Int))) (aT e n.2.1 (n.2.2.2.2.1+(i:Int),n.2.2.2.2.1+(i:Int),())) bm)
def ix (n:bA) (at_:Int) (t:List cG) (leaf:Int) (e:bc):List m7:=(List.range (n.2.2.2.2.2.1-n.2.2.2.2.1+1).toNat).map (dl n at_ t leaf e)++[(false,k0 t at_ (n.2.2.2.2.2.1-n.2.2.2.2.1+1),leaf,uZ n e)]
def gQ (n:bA) (at_:Int) (t:List cG):List cG:=if n.1=6 then k0 t at_ 1 else if n.1=10/\eZ t at_<n.2.2.2.2.1 then k0 t at_ 1 else t
def jL (n:bA) (at_:Int) (t:List cG):List cG:=if n.1=6 then k0 t at_ 0 else t
def bN (d:aE) (n:bA) (at_:Int) (t:List cG) (leaf:Int) (e:bc):List m7:=
 if n.1=1 then [(false,t,leaf,cond (aA (az d e leaf (dt d n.2.2.2.1))) (aT e n.2.1 (bu (az d e leaf (dt d n.2.2.2.1)))) bm)]
 else if n.1=2 then [(false,t,kP leaf n.2.1,c9 d leaf (dt d n.2.2.2.1) true e),(false,t,m8 leaf n.2.1,c9 d leaf (dt d n.2.2.2.1) false e)]
 else if n.1=3 then [(false,t,leaf,cond (aA (az d e leaf (dt d n.2.2.1))&& aA (az d e leaf (dt d n.2.2.2.1))) (rS d e n.2.1 (bu (az d e leaf (dt d n.2.2.1))) (bu (az d e leaf (dt d n.2.2.2.1)))) bm)]
 else if n.1=4 then [(false,t,leaf,aT e n.2.1 (n.2.2.2.2.1,n.2.2.2.2.2.1,()))]
 else if n.1=13 then ix n at_ t leaf e
 else if n.1=14 then [(false,[],leaf,e)]
 else if n.1=11\/n.1=12 then [(false,t,leaf,c9 d leaf (dt d n.2.2.2.1) true e)]
 else if n.1=7\/n.1=8 then [(false,t,leaf,e)]
 else [(true,gQ n at_ t,leaf,c9 d leaf (dt d n.2.2.2.1) true e),(false,jL n at_ t,leaf,c9 d leaf (dt d n.2.2.2.1) false e)]
def bE (d:aE) (n:bA) (leaf:Int) (e:bc):Int:=
 if n.1=4\/n.1=13\/n.1=14\/n.1=7\/n.1=8 then 0
 else if n.1=3 then cond (aA (az d e leaf (dt d n.2.2.1)))
  (cond (aA (az d e leaf (dt d n.2.2.2.1))) (di (di (bP (az d e leaf (dt d n.2.2.1))) (bP (az d e leaf (dt d n.2.2.2.1)))) (oU d n.2.1 (bu (az d e leaf (dt d n.2.2.1))))) (di (bP (az d e leaf (dt d n.2.2.1))) (bP (az d e leaf (dt d n.2.2.2.1)))))
  (bP (az d e leaf (dt d n.2.2.1)))
 else if n.1=11 then cond (aA (az d e leaf (dt d n.2.2.2.1))&& eu (bu (az d e leaf (dt d n.2.2.2.1))) 0) (di (bP (az d e leaf (dt d n.2.2.2.1))) 8) (bP (az d e leaf (dt d n.2.2.2.1)))
 else bP (az d e leaf (dt d n.2.2.2.1))
def Ie:∀f:Nat,f<=3->∀v:Nat,v<f->∀l:Nat,l<2^f->(0<=kP l v/\kP l v<2^f)/\(0<=m8 l v/\m8 l v<2^f):=by
 intro f a;have:f=0\/f=1\/f=2\/f=3:=by omega
 rcases this with rfl|rfl|rfl|rfl
 ·intro v b;omega
 ·decide
 ·decide
 ·decide
def tD (c:aO d=true) (i:0<=v/\v<(d.2.1.length:Int)) (e:dv d leaf):dv d (kP leaf v)/\dv d (m8 leaf v):=by
 have f:=(eJ c).2.1;obtain⟨j,g⟩:=e;have b:((leaf.toNat:Nat):Int)=leaf:=by omega
 have h:((v.toNat:Nat):Int)=v:=by omega
 have a:leaf.toNat<2^d.2.1.length:=by
  have:((leaf.toNat:Nat):Int)<((2^d.2.1.length:Nat):Int):=by rw[b];simpa using g
  omega
 have:=Ie d.2.1.length f v.toNat (by omega) leaf.toNat a;rw[b,h]at this;exact this
def BI (n:aV d e) (g:e.1=true) {place:bq} (i:bi a) (j:bo a=true):aV d (rS d e v place a):=by
 obtain⟨b,o,k⟩:=bf n g;unfold rS;split
 ·rename_i x p
  cases eB x place
  ·exact dN d
  ·obtain⟨q,_⟩:=a0r.1 p
   have c:v.toNat<e.2.2.1.length:=by rw[b.arrs];exact q
   have l:e.2.2.1.getD v.toNat dA∈e.2.2.1:=by rw[bh c];exact a0n c
   have m:bi (if x.2.1=1 then a else eX (e.2.2.1.getD v.toNat dA) a)/\bo (if x.2.1=1 then a else eX (e.2.2.1.getD v.toNat dA) a)=true:=by
    split
    ·exact⟨i,j⟩
    ·exact⟨tc (b.fa _ l) i,Dj (k _ l) j⟩
   refine Or.inl ⟨g,⟨b.ints,by simp only[a1c,a4s];exact b.arrs,b.fi,λy f=> ?_⟩,o,λy f=> ?_⟩
   ·rcases a2s f with h|h
    ·exact b.fa y h
    ·rw[h];exact m.1
   ·rcases a2s f with h|h
    ·exact k y h
    ·rw[h];exact m.2
 ·exact dN d
def Lx (v:jd):Prop:=aA v=true->bo (bu v)=true
def tE:Lx jF:=λh=>by cases h
def O8 {l a:List Int} (h:l≠[]) (c:a≠[]) (b:∃x∈l,∃y∈a,x<=y):s4 l<=s5 a:=by
 obtain⟨x,b,y,d,e⟩:=b;have f:=(pf h).2 x b;have g:=(pg c).2 y d;omega
def Ly {l:List Int} (d:∀x∈l,ax x) (a b:Bool) (c:Int):Lx (jE l a b c):=by
 unfold Lx jE
 cases hc:((l++cond a [-9223372036854775808] []).isEmpty||(l++cond b [9223372036854775807] []).isEmpty)
 ·intro _
  simp only[Bool.or_eq_false_iff,List.isEmpty_eq_false_iff]at hc;refine a0b (O8 hc.1 hc.2 ?_)
  cases l with
  |nil=>
   cases a
   ·exact absurd rfl hc.1
   ·cases b
    ·exact absurd rfl hc.2
    ·exact⟨-9223372036854775808,by simp,9223372036854775807,by simp,by omega⟩
  |cons x r=>exact⟨x,by simp,x,by simp,a5g _⟩
 ·intro h;cases h
def yQ {cs:List (Int×Int)} (a:∀p∈cs,ax p.1) (b:Int):Lx (d8 cs b):=by
 rw[je];exact Ly (λx c=>a _ (fL.1 c)) _ _ _
def rT {f:Int->Int->Int×Int} (c:∀x y,ax x->ax y->ax (f x y).1) (d:bi a) (e:bi b):Lx (jG f a b):=by
 unfold jG
 cases bJ a b
 ·exact tE
 ·exact yQ (pi c d e) 0
def Lz (d:bi a) (e:bi b):Lx (ry a b):=by
 unfold ry
 cases bJ a b
 ·exact tE
 ·refine yQ (λp c=> ?_) _
  obtain⟨x,f,c⟩:=a3s.1 c;exact pi Bj d (mT e x f) p c
def O9 (e:bi b) (a:(cy b).isEmpty=false) (f:bo b=true):Aj b=max (cS b.1) (cS b.2.1)-1/\0<=Aj b/\Aj b<=9223372036854775807:=by
 obtain⟨⟨j,k⟩,l,m⟩:=e;have g:b.1<=b.2.1:=a0w f;have h:b.1<0\/b.2.1>0:=by
  unfold cy at a;by_cases c:b.1<0
  ·exact Or.inl c
  ·by_cases d:b.2.1>0
   ·exact Or.inr d
   ·rw[a0d c,a0d d]at a;simp at a
 have i:(if cS b.2.1>cS b.1 then cS b.2.1 else cS b.1)=max (cS b.1) (cS b.2.1):=by split<;>omega
 have c:1<=max (cS b.1) (cS b.2.1)/\max (cS b.1) (cS b.2.1)<=9223372036854775808:=by
  unfold cS;split<;>split<;>omega
 unfold Aj;rw[i,gW,aj (by omega) (by omega)];omega
def LA (f:bi a) (e:bi b):Lx (rC a b):=by
 unfold rC
 cases ho:bJ a b
 ·exact tE
 ·simp only[bJ,a0e]at ho
  cases hp:(cy b).isEmpty
  ·cases (a.1==a.2.1&& b.1==b.2.1)
   ·intro _
    obtain⟨g,i,j⟩:=O9 e hp ho.2;have w:wrap .i64 (0-Aj b)= -Aj b:=by rw[aj (by omega) (by omega)];omega
    rw[w];refine a0b ?_
    simp only[bu,a1c,a1q];by_cases d:a.1<0
    ·rw[a0b d,a1c]
     by_cases c:a.2.1>0
     ·rw[a0b c,a1c];split<;>split<;>omega
     ·rw[a0m c,a1q];split<;>omega
    ·rw[a0m d,a1q]
     by_cases c:a.2.1>0
     ·rw[a0b c,a1c];split<;>omega
     ·rw[a0m c,a1q];omega
   ·intro _
    exact a0b (a5g _)
  ·intro h;cases h
def Pa (op:Int) (a b:bq):bo (yd op a b)=true:=by
 unfold yd
 cases hc:(decide (13<=op/\op<=18)&& bJ a b)
 ·rfl
 ·simp only[a0e,a0v]at hc
  cases h1:eA (31-op) a b
  ·have:=IY hc.1.1 hc.1.2 hc.2 h1
   rw[this];rfl
  ·cases eA op a b<;>rfl
def NE (op:Int) (c:bi a) (d:bi b) (e:bo a=true) (f:bo b=true):Lx (pC op a b):=by
 have g:a.1<=a.2.1:=a0w e;have ob':b.1<=b.2.1:=a0w f;unfold pC;split
 ·exact rT Bh c d
 split
 ·exact rT pm c d
 split
 ·exact rT Bi c d
 split
 ·exact Lz c d
 split
 ·exact LA c d
 split
 ·intro _;refine a0b ?_;simp only[bu,dm];split<;>split<;>omega
 split
 ·intro _;refine a0b ?_;simp only[bu,dm];split<;>split<;>omega
 ·intro _;exact Pa op a b
def kQ (a:bq):Prop:=0<=a.1/\a.2.1<=1
def FB (leaf n:Int):0<=HY leaf n/\HY leaf n<=1:=by
 unfold HY;have h:∀x:BitVec 64,(x&&& BitVec.ofInt 64 1).toNat<=1:=by
  intro x;have:(BitVec.ofInt 64 1)=1#64:=rfl;rw[this,BitVec.toNat_and];exact Nat.and_le_right
 have:=h (BitVec.ofInt 64 (leaf.fdiv (2^(min n.toNat 64))));rw[aj (by omega) (by omega)];omega
structure Dq (d:aE) (e:bc):Prop where
 ok:Gd d e
 i:∀x∈e.2.1,bo x=true
 a:∀x∈e.2.2.1,bo x=true
def kR (h:aV d e) (a:e.1=true):Dq d e:=by
 obtain⟨b,c,f⟩:=bf h a;exact⟨b,c,f⟩
def LB (b:Dq d e) (leaf:Int) {t:cL} (g:cO d t=true):bo (dS e leaf t)=true/\(cD t.1=2->nT t.1=0->kQ (dS e leaf t)):=by
 unfold dS;split
 ·rename_i j
  exact⟨a0b (a5g _),λa=>by rw[j]at a;simp[cD]at a⟩
 split
 ·rename_i c
  obtain⟨l,k⟩:=rG g c;have f:t.2.1.toNat<e.2.1.length:=by rw[b.ok.ints];exact k
  rw[bh f];exact⟨b.i _ (a0n f),λa=>by rw[c]at a;simp[cD]at a⟩
 split
 ·exact⟨a0b (a5g _),λ_ _=>⟨(FB _ _).1,(FB _ _).2⟩⟩
 ·refine⟨a0b (a5g _),λ_ _=> ?_⟩
  have:=Dd (t.1==4);rcases this with h|h<;>(unfold kQ;simp only;omega)
def yR {v:jd} (h:Lx v):Lx (dI al v):=by
 intro a;have:aA v=true:=by
  cases hc:aA v
  ·rw[yq hc]at a;cases a
  ·rfl
 rw[yp this];exact h this
def BJ {v:jd} (a:aA (dI al v)=true):aA v=true/\bu (dI al v)=bu v:=by
 have:aA v=true:=by
  cases hc:aA v
  ·rw[yq hc]at a;cases a
  ·rfl
 exact⟨this,by rw[yp this];rfl⟩
def Pb (f:Dq d e) {t:cL} (k:cO d t=true) (l:nT t.1=1) (m:bi a) (n:bo a=true) (b:t.1=19->kQ a):Lx (Df d e t a)/\(t.1=19->kQ (bu (Df d e t a))):=by
 have o:a.1<=a.2.1:=a0w n;unfold Df;split
 ·rename_i g
  obtain⟨q,i⟩:=De k g;have j:t.2.1.toNat<e.2.2.1.length:=by rw[f.ok.arrs];exact i
  rw[a0a i];simp only;refine⟨?_,λh=>by omega⟩
  cases eB d.2.2.1[t.2.1.toNat] a
  ·intro h;cases h
  ·intro _
   rw[bh j];exact f.a _ (a0n j)
 split
 ·exact⟨rT pm cN m,λh=>by omega⟩
 ·rename_i g r
  have c:t.1=19:=by rcases Ra l with h|h|h<;>omega
  obtain⟨s,u⟩:=b c;have w1:wrap .i64 (1-a.2.1)=1-a.2.1:=aj (by omega) (by omega);have p:wrap .i64 (1-a.1)=1-a.1:=aj (by omega) (by omega);rw[w1,p];refine⟨λ_=>a0b ?_,λ_=> ?_⟩
  ·simp only[bu,dm];omega
  ·unfold kQ;simp only[bu,dm];omega
def LC (op:Int) (a b:bq):kQ (yd op a b):=by
 unfold yd
 cases (decide (13<=op/\op<=18)&& bJ a b)
 ·unfold kQ;simp
 ·cases eA (31-op) a b<;>cases eA op a b<;>(unfold kQ;simp)
def LD (c:kQ a) (d:kQ b):kQ (bu (dm (if b.1<a.1 then b.1 else a.1,if b.2.1<a.2.1 then b.2.1 else a.2.1,()))):=by
 obtain⟨a1,e⟩:=c;obtain⟨f,g⟩:=d;refine⟨?_,?_⟩
 ·simp only[bu,dm]
  split<;>omega
 ·simp only[bu,dm]
  split<;>omega
def NF (c:kQ a) (d:kQ b):kQ (bu (dm (if b.1>a.1 then b.1 else a.1,if b.2.1>a.2.1 then b.2.1 else a.2.1,()))):=by
 obtain⟨a1,e⟩:=c;obtain⟨f,g⟩:=d;refine⟨?_,?_⟩
 ·simp only[bu,dm]
  split<;>omega
 ·simp only[bu,dm]
  split<;>omega
def iN {d:aE} {e:bc} (f:Dq d e) (leaf:Int):∀ {x:Ex},x.Ok d->Lx (az d e leaf x)/\(x.kind=2->aA (az d e leaf x)=true->kQ (bu (az d e leaf x)))
 | .leaf t,hx=>by
  obtain⟨r,s⟩:=LB f leaf hx.2;exact⟨λ_=>r,λk _=>s k hx.1⟩
 | .one t a,hx=>by
  have ih:=iN f leaf hx.2.2.2;by_cases c:aA (az d e leaf a)=true
  ·have q:=Pb f hx.2.1 hx.1 (ce f.ok leaf hx.2.2.2).1 (ih.1 c) (λo=>ih.2 (by rw[hx.2.2.1,o];rfl) c)
   rw[tf c];refine⟨yR q.1,λk g=> ?_⟩;rw[(BJ g).2];exact q.2 (tr hx k).1
  ·rw[th (by simpa using c)]
   exact⟨λh=>(by cases h),λ_ h=>(by cases h)⟩
 | .two t a b,hx=>by
  have i:=iN f leaf hx.2.2.2.2.1;have j:=iN f leaf hx.2.2.2.2.2;have u:bi (bu (az d e leaf a)):=(ce f.ok leaf hx.2.2.2.2.1).1;have v:bi (bu (az d e leaf b)):=(ce f.ok leaf hx.2.2.2.2.2).1;by_cases c:aA (az d e leaf a)=true
  ·by_cases l:aA (az d e leaf b)=true
   ·rw[tl c l]
    refine⟨yR (NE t.1 u v (i.1 c) (j.1 l)),λk g=> ?_⟩;rw[(BJ g).2];unfold pC;rcases tu hx k with⟨w,y⟩|⟨p|h21,m,n⟩
    ·rw[ifNegQ,ifNegQ,ifNegQ,ifNegQ,ifNegQ,ifNegQ,ifNegQ]
     exact LC _ _ _
    ·rw[ifNegQ,ifNegQ,ifNegQ,ifNegQ,ifNegQ,a0f p]
     exact LD (i.2 m c) (j.2 n l)
    ·rw[ifNegQ,ifNegQ,ifNegQ,ifNegQ,ifNegQ,ifNegQ,a0f h21]
     exact NF (i.2 m c) (j.2 n l)
   ·rw[tk c (by simpa using l)]
    exact⟨λh=>(by cases h),λ_ h=>(by cases h)⟩
  ·rw[tj (by simpa using c)]
   exact⟨λh=>(by cases h),λ_ h=>(by cases h)⟩
def yS {n:Nat} (h:vQ n v=true):0<=v/\v<(n:Int):=by
 have:=a0w h;omega
def I7 {a b:Int} (h:nE a b=true): -999999999999999999<=a/\a<=b/\b<=999999999999999999:=by
 simp only[nE,a0e,a0v]at h;omega
def I8 (h:bt d n=true) (a:n.1=1):(0<=n.2.1/\n.2.1<(d.1.length:Int))/\bV d n.2.2.2.1=1:=by
 unfold bt at h;rw[a0f a]at h;simp only[a0e,a3b]at h;exact⟨yS h.1,h.2.2.1⟩
def I9 (h:bt d n=true) (a:n.1=2):(0<=n.2.1/\n.2.1<(d.2.1.length:Int))/\bV d n.2.2.2.1=2:=by
 unfold bt at h;rw[ifNegQ,a0f a]at h;simp only[a0e,a3b]at h;exact⟨yS h.1,h.2.2.1⟩
def Ja (h:bt d n=true) (a:n.1=3):(0<=n.2.1/\n.2.1<(d.2.2.1.length:Int))/\bV d n.2.2.1=1/\bV d n.2.2.2.1=1:=by
 unfold bt at h;rw[ifNegQ,ifNegQ,a0f a]at h;simp only[a0e,a3b]at h;exact⟨yS h.1,h.2.1,h.2.2.1⟩
def NG (h:bt d n=true) (a:n.1=4):(0<=n.2.1/\n.2.1<(d.1.length:Int))/\ -999999999999999999<=n.2.2.2.2.1/\n.2.2.2.2.1<=n.2.2.2.2.2.1/\n.2.2.2.2.2.1<=999999999999999999:=by
 unfold bt at h;rw[ifNegQ,ifNegQ,ifNegQ,a0f a]at h;simp only[a0e,a3b]at h;exact⟨yS h.1,I7 h.2.2.2⟩
def qA (h:bt d n=true) (a:n.1=13):(0<=n.2.1/\n.2.1<(d.1.length:Int))/\ -999999999999999999<=n.2.2.2.2.1/\n.2.2.2.2.1<=n.2.2.2.2.2.1/\n.2.2.2.2.2.1<=999999999999999999/\n.2.2.2.2.2.1<=n.2.2.2.2.1+3:=by
 unfold bt at h;rw[ifNegQ,ifNegQ,ifNegQ,ifNegQ,a0f a]at h;simp only[a0e,a3b,a0v]at h;have:=I7 h.2.2.2.1;exact⟨yS h.1,this.1,this.2.1,this.2.2,h.2.2.2.2⟩
def BK (h:bt d n=true) (b:n.1=5\/n.1=6\/n.1=9\/n.1=10\/n.1=11\/n.1=12:=by omega):bV d n.2.2.2.1=2:=by
 unfold bt at h;rw[ifNegQ,ifNegQ,ifNegQ,ifNegQ,ifNegQ]at h;by_cases a:n.1=10
 ·rw[a0f a]at h
  simp only[a0e,a3b]at h;exact h.2.2.1
 ·rw[a0d a,ifPosQ]at h
  simp only[a0e,a3b]at h;exact h.2.2.1
def tF (h:bt d n=true):1<=n.1/\n.1<=14:=by
 unfold bt at h;by_cases a:1<=n.1/\n.1<=14
 ·exact a
 ·rw[ifNegQ,ifNegQ,ifNegQ,ifNegQ,ifNegQ,ifNegQ,ifNegQ,ifNegQ]at h
  cases h
def jl (h:c=true->aV d e):aV d (cond c e bm):=by
 cases c
 ·exact dN d
 ·exact h rfl
def fc (c:aV d e) (b:e.1=true) (v:Int) (f:bi a) (g:bo a=true):aV d (aT e v a):=by
 obtain⟨h,i,j⟩:=bf c b;exact Nu ⟨b,h,i,j⟩ v f g
def tG (h:bt d n=true) (j:n.1=13) (a:aV d e) (b:e.1=true):aV d (uZ n e):=by
 obtain⟨f,l,m⟩:=bf a b;obtain⟨⟨o,p⟩,q,r,s,t⟩:=qA h j;have g:n.2.1.toNat<e.2.1.length:=by rw[f.ints];omega
 have k:e.2.1.getD n.2.1.toNat dA∈e.2.1:=by rw[bh g];exact a0n g
 have i:=f.fi _ k;unfold uZ;refine tp (jl λc=>fc a b _ ?_ ?_) (jl λc=>fc a b _ ?_ ?_)
 ·exact l9 i ⟨by unfold ax;simp only;omega,by unfold ax;simp only;omega⟩
 ·exact rJ c
 ·exact l9 i ⟨by unfold ax;simp only;omega,by unfold ax;simp only;omega⟩
 ·exact rJ c
def qB (h:bt d n=true) (c:n.1=13) (at_:Int) (b:dv d leaf) (f:aV d e) (g:e.1=true):∀a∈ix n at_ t leaf e,rR d a:=by
 obtain⟨⟨l,m⟩,o,p,q,r⟩:=qA h c;intro a ha;unfold ix at ha;rcases a0k.1 ha with ha|ha
 ·obtain⟨i,j,rfl⟩:=a4q.1 ha
  have k:=a2f.1 j;refine⟨jZ _ _ _,b,jl λs=>fc f g _ ?_ ?_⟩
  ·exact⟨by unfold ax;simp only;omega,by unfold ax;simp only;omega⟩
  ·exact a0b (a5g _)
 ·rw[a0x.1 ha]
  exact⟨jZ _ _ _,b,tG h c f g⟩
def pu (n:bA) (at_:Int) (a:aZ t=true):aZ (gQ n at_ t)=true:=by
 unfold gQ;split
 ·exact jZ _ _ _
 split
 ·exact jZ _ _ _
 ·exact a
def rU (n:bA) (at_:Int) (a:aZ t=true):aZ (jL n at_ t)=true:=by
 unfold jL;split
 ·exact jZ _ _ _
 ·exact a
def m9 (u:aO d=true) (h:bt d n=true) (at_:Int) (g:aZ t=true) (b:dv d leaf) (c:aV d e) (i:e.1=true):∀a∈bN d n at_ t leaf e,rR d a:=by
 obtain⟨r,D,E⟩:=bf c i;have s:=kR c i;unfold bN;split
 ·rename_i v
  obtain⟨j,k⟩:=I8 h v;obtain⟨f,l,m,o⟩:=dV (show bV d n.2.2.2.1≠0 by omega);intro a ha;rw[a0x.1 ha];exact⟨g,b,jl λp=>fc c i _ (ce r leaf f).1 ((iN s leaf f).1 p)⟩
 split
 ·rename_i w
  obtain⟨j,k⟩:=I9 h w;obtain⟨f,l,m,o⟩:=dV (show bV d n.2.2.2.1≠0 by omega);obtain⟨l1,l2⟩:=tD u j b;intro a ha;simp only[a1j,a3m,a5y]at ha;rcases ha with ha|ha
  ·rw[ha];exact⟨g,l1,dB leaf f true c⟩
  ·rw[ha];exact⟨g,l2,dB leaf f false c⟩
 split
 ·rename_i x
  obtain⟨j,y,k⟩:=Ja h x;obtain⟨f,l,m,o⟩:=dV (show bV d n.2.2.2.1≠0 by omega);intro a ha;rw[a0x.1 ha];refine⟨g,b,jl λp=> ?_⟩;simp only[a0e]at p;exact BI c i (ce r leaf f).1 ((iN s leaf f).1 p.2)
 split
 ·rename_i z
  obtain⟨j,F,A,G⟩:=NG h z;intro a ha;rw[a0x.1 ha];exact⟨g,b,fc c i _ ⟨by unfold ax;simp only;omega,by unfold ax;simp only;omega⟩ (a0b A)⟩
 split
 ·rename_i q
  exact qB h q at_ b c i
 split
 ·intro a ha
  rw[a0x.1 ha];exact⟨rfl,b,c⟩
 split
 ·rename_i B
  have k:=BK h;obtain⟨f,l,m,o⟩:=dV (show bV d n.2.2.2.1≠0 by omega);intro a ha;rw[a0x.1 ha];exact⟨g,b,dB leaf f true c⟩
 split
 ·intro a ha
  rw[a0x.1 ha];exact⟨g,b,c⟩
 ·rename_i a1 H I J K L M N
  have C:=tF h;have k:=BK h;obtain⟨f,l,m,o⟩:=dV (show bV d n.2.2.2.1≠0 by omega);intro a ha;simp only[a1j,a3m,a5y]at ha;rcases ha with ha|ha
  ·rw[ha];exact⟨pu n at_ g,b,dB leaf f true c⟩
  ·rw[ha];exact⟨rU n at_ g,b,dB leaf f false c⟩
def LF (h:bt d n=true) (at_:Int) (t:List cG) (leaf:Int) (e:bc):(bN d n at_ t leaf e).length<=5:=by
 have c:∀a:m7,([a]:List m7).length<=5:=λa=>by simp
 have f:∀a b:m7,([a,b]:List m7).length<=5:=λa b=>by simp
 unfold bN;split
 ·exact c _
 split
 ·exact f _ _
 split
 ·exact c _
 split
 ·exact c _
 split
 ·rename_i g
  obtain⟨i,j,k,l,m⟩:=qA h g;simp only[ix,a0j,a4e,a5t,a0h,a0g];omega
 split
 ·exact c _
 split
 ·exact c _
 split
 ·exact c _
 ·exact f _ _
abbrev QO:=eN×eN×List pB×Int×Int×List cL×List cL×Int×Int×Int×eN×eN×List pB×List aI×eN×eN×List pB×List aI×Int×Unit
def gg (d:aE) (n:bA) (at_:Int) (s:List aI×List aI) (a:Int):QO:=(d.1,d.2.1,d.2.2.1,n.1,n.2.1,n.2.2.1,n.2.2.2.1,n.2.2.2.2.1,n.2.2.2.2.2.1,at_,d.1,d.2.1,d.2.2.1,s.1,d.1,d.2.1,d.2.2.1,s.2,a,())
def bY (h:e.1=false):vu d l t leaf e=l:=by unfold vu;rw[cF h]
def bZ (h:e.1=true):vu d l t leaf e=f7 none l (t,jO d leaf e,()):=by unfold vu;rw[cT h]
def fw (h:c=true) (x y:Option α):br k (!c) x y=y:=by rw[h,a0o,ah]
def gZ (h:c=false) (x y:Option α):br k (!c) x y=x:=by rw[h,a0u,ai]
def NH (a:aO d=true):0<=(2:Int)^d.2.1.length/\(2:Int)^d.2.1.length<=(2:Int)^d.2.1.length/\(2:Int)^d.2.1.length*56<=ag/\((2:Int)^d.2.1.length).toNat=2^d.2.1.length:=by
 have b:=(eJ a).2.1;have:d.2.1.length=0\/d.2.1.length=1\/d.2.1.length=2\/d.2.1.length=3:=by omega
 rcases this with h|h|h|h<;>rw[h]<;>decide
def mf (i:4194304<k) (f:aO d=true) {L:List aI} (j:eK d L) (v:L.length<=90000) (l:aZ t=true) (a:dv d leaf) (m:aV d e) (F:(List aI×Unit)×d7->Option α):(bd k (pO k ((d.1,d.2.1,d.2.2.1,()),())) λb=>
 br k (decide (0<=b.1.1/\b.1.1<=b.1.1/\b.1.1*56<=ag))
 (br k (decide (0<=leaf/\leaf<((List.replicate b.1.1.toNat (Kd.z cJ)).length:Int)))
 (bd k ((List.replicate b.1.1.toNat (Kd.z cJ))[leaf.toNat]?) λw=>
 bd k (oG k (L,([(t,(List.replicate b.1.1.toNat (Kd.z cJ)).set leaf.toNat e,())]:List cQ),(()),())) F)
 none)
 none)=F ((f7 none L (t,jO d leaf e,()),()),((),(),(),())):=by
 have n:=(eJ f).2.1;obtain⟨o,p,q,r⟩:=NH f;have g:=Bx k d n;have c:pO k ((d.1,d.2.1,d.2.2.1,()),())=some (((2:Int)^d.2.1.length,()),((),())):=g;have h:leaf.toNat<2^d.2.1.length:=by have:=a.1;have:=a.2;omega
 have s:oG k (L,[(t,jO d leaf e,())],(),())=some ((yJ none L [(t,jO d leaf e,())],()),((),(),(),())):=As i f j (λx u=>by rw[a0x.1 u];exact⟨l,lB m⟩) (by simp;omega)
 rw[c,ac,a0b ⟨o,p,q⟩,ai];simp only[r];rw[a0b (show 0<=leaf/\leaf<((List.replicate (2^d.2.1.length) (Kd.z cJ)).length:Int) by rw[a2a];have:=a.1;omega),ai,a0a (by rw[a2a];exact h),ac];refine Eq.trans (a1v (λz=>bd k z F) s) ?_
 rw[ac];rfl
def na (b:4194304<k) (c:Gd d e) (leaf:Int) {x:Ex} (f:x.Ok d) (g:x.size<=40) (n:bA) (at_:Int) (s:List aI×List aI) (a:Int):zV k (gg d n at_ s a,iQ d e leaf,x.flat,())=some ((az d e leaf x,()),(gg d n at_ s (di a (bP (az d e leaf x))),(),(),())):=by
 simp only[zV,gg,iQ,mV b c leaf f g,ac];rfl
def nb (f:4194304<k) (g:aO d=true) (h:aV d e) (i:e.1=true) (leaf:Int) {x:Ex} (j:x.Ok d) (b:x.kind=2) (l:x.size<=40) (a:Bool) (m:n.2.2.2.1=x.flat) (at_:Int) (s:List aI×List aI) (c:Int):A7 k (gg d n at_ s c,iQ d e leaf,a,())=some ((c9 d leaf x a e,()),(gg d n at_ s (di c (bP (az d e leaf x))),(),(),())):=by
 simp only[A7,gg,iQ,m,Nv f g leaf j b l a h i,ac];rfl
def Pc (r:4194304<k) (j:aO d=true) (h:bt d n=true) (G:n.1=2) (at_:Int) (u:aZ t=true) (y:dv d leaf) (v:aV d e) (H:e.1=true) (z:ge d s) (V:s.1.length+s.2.length<=80000) (w:Int):KB k (gg d n at_ s w,t,iQ d e leaf,())=some ((),(gg d n at_ ((bN d n at_ t leaf e).foldl (bM d) s) (di w (bE d n leaf e)),(),(),())):=by
 obtain⟨I,L⟩:=I9 h G;obtain⟨x,M,N,O⟩:=dV (show bV d n.2.2.2.1≠0 by omega);have A:(dt d n.2.2.2.1).kind=2:=by rw[<-N];exact L
 obtain⟨l1,l2⟩:=tD j I y;obtain⟨P,W,X⟩:=bf v H;have Q:=(ce P leaf x).2;have J:=λl B R S=>nb r j v H leaf x A O l M at_ (R,S) B
 have T:bN d n at_ t leaf e=[(false,t,kP leaf n.2.1,c9 d leaf (dt d n.2.2.2.1) true e),(false,t,m8 leaf n.2.1,c9 d leaf (dt d n.2.2.2.1) false e)]:=by
  unfold bN;rw[ifNegQ,a0f G]
 have U:bE d n leaf e=bP (az d e leaf (dt d n.2.2.2.1)):=by
  unfold bE;rw[ifNegQ,ifNegQ,ifNegQ]
 have C:=dB leaf x true v;have D:=dB leaf x false v;rw[T,U];simp only[a1t,a2u,bM,a1q];have a:di (di w (bP (az d e leaf (dt d n.2.2.2.1)))) (bP (az d e leaf (dt d n.2.2.2.1)))=di w (bP (az d e leaf (dt d n.2.2.2.1))):=by
  rw[c7,rH Q]
 obtain⟨m,o⟩:∃g,g=c9 d leaf (dt d n.2.2.2.1) true e:=⟨_,rfl⟩;obtain⟨f,p⟩:∃g,g=c9 d leaf (dt d n.2.2.2.1) false e:=⟨_,rfl⟩;rw[<-o]at C⊢;rw[<-p]at D⊢;have i:=J true;have c:=J false;rw[<-o]at i;rw[<-p]at c;simp only[gg,iQ]at i c⊢;simp only[KB,i,ac,a0b I.1,ai];have E:dv d (wrap .i64 (((BitVec.ofInt 64 leaf|||BitVec.ofInt 64 (wrap .i64 (1*2^(min n.2.1.toNat 64)))).toNat:Int))):=l1;have q:dv d (wrap .i64 (((BitVec.ofInt 64 leaf&&& ~~~BitVec.ofInt 64 (wrap .i64 (1*2^(min n.2.1.toNat 64)))).toNat:Int))):=l2;rcases a0p m.1 with hlt|hlt
 ·rw[fw hlt,mf r j z.b (by omega) u E (show aV d (m.1,m.2.1,m.2.2.1,())from C)]
  simp only[c,ac];have K:=tC z.b u (kP leaf n.2.1) C;have F:=yO d s.2 t (kP leaf n.2.1) m;rw[bZ hlt]at K F⊢;rcases a0p f.1 with hlf2|hlf2
  ·rw[bZ hlf2,fw hlf2]
   refine(mf r j K (by omega) u q (show aV d (f.1,f.2.1,f.2.2.1,())from D) _).trans ?_
   simp only[a];rfl
  ·rw[bY hlf2,gZ hlf2]
   simp only[a];rfl
 ·rw[bY hlt,gZ hlt]
  simp only[c,ac];rcases a0p f.1 with hlf2|hlf2
  ·rw[bZ hlf2,fw hlf2,mf r j z.b (by omega) u q (show aV d (f.1,f.2.1,f.2.2.1,())from D)]
   simp only[a];rfl
  ·rw[bY hlf2,gZ hlf2]
   simp only[a]
def LG (j:4194304<k) (u:aO d=true) (h:bt d n=true) (h5:n.1=5\/n.1=6\/n.1=9\/n.1=10) (at_:Int) (K:aZ t=true) (f:dv d leaf) (H:aV d e) (Q:e.1=true) (v:ge d s) (hn:s.1.length+s.2.length<=80000) (I:Int):EL k (gg d n at_ s I,t,iQ d e leaf,())=some ((),(gg d n at_ ((bN d n at_ t leaf e).foldl (bM d) s) (di I (bE d n leaf e)),(),(),())):=by
 have T:=BK h;obtain⟨J,U,V,W⟩:=dV (show bV d n.2.2.2.1≠0 by omega);have L:(dt d n.2.2.2.1).kind=2:=by rw[<-V];exact T
 obtain⟨X,hi,hr⟩:=bf H Q;have Y:=(ce X leaf J).2;have R:=λB M Z jp=>nb j u H Q leaf J L W B U at_ (Z,jp) M
 have em:bN d n at_ t leaf e=[(true,gQ n at_ t,leaf,c9 d leaf (dt d n.2.2.2.1) true e),(false,jL n at_ t,leaf,c9 d leaf (dt d n.2.2.2.1) false e)]:=by
  unfold bN;rw[ifNegQ,ifNegQ,ifNegQ,ifNegQ,ifNegQ,ifNegQ,ifNegQ,ifNegQ]
 have la:bE d n leaf e=bP (az d e leaf (dt d n.2.2.2.1)):=by
  unfold bE;rw[ifNegQ,ifNegQ,ifNegQ]
 have S:=dB leaf J true H;have N:=dB leaf J false H;have ty:=pu n at_ K;have w:=rU n at_ K;rw[em,la];simp only[a1t,a2u,bM,a1q,a1c];have c:di (di I (bP (az d e leaf (dt d n.2.2.2.1)))) (bP (az d e leaf (dt d n.2.2.2.1)))=di I (bP (az d e leaf (dt d n.2.2.2.1))):=by
  rw[c7,rH Y]
 obtain⟨A,C⟩:∃g,g=c9 d leaf (dt d n.2.2.2.1) true e:=⟨_,rfl⟩;obtain⟨x,D⟩:∃g,g=c9 d leaf (dt d n.2.2.2.1) false e:=⟨_,rfl⟩;rw[<-C]at S⊢;rw[<-D]at N⊢;have l:=R true;have i:=R false;rw[<-C]at l;rw[<-D]at i;have O:=lA K;have E:=oS (k:=k) j t at_;have F:=At (k:=k) (by omega) O at_;simp only[gg,iQ]at l i⊢;have z:aV d (A.1,A.2.1,A.2.2.1,()):=S;have m:aV d (x.1,x.2.1,x.2.2.1,()):=N;by_cases y:n.1=6
 ·have o:gQ n at_ t=k0 t at_ 1:=by unfold gQ;rw[a0f y]
  have p:jL n at_ t=k0 t at_ 0:=by unfold jL;rw[a0f y]
  have G:(n.1==6)=true:=by simp[y]
  simp only[EL,G,ai,E,ac,l];rw[o]at ty⊢;rw[p]at w⊢;rcases a0p A.1 with hlt|hlt
  ·rw[fw hlt,mf j u v.a (by omega) ty f z]
   simp only[i,ac];rw[bZ hlt];rcases a0p x.1 with hlf2|hlf2
   ·rw[bZ hlf2,fw hlf2]
    refine(mf j u v.b (by omega) w f N _).trans ?_
    simp only[c]<;>rfl
   ·rw[bY hlf2,gZ hlf2]
    simp only[c]<;>rfl
  ·rw[bY hlt,gZ hlt]
   simp only[i,ac];rcases a0p x.1 with hlf2|hlf2
   ·rw[bZ hlf2,fw hlf2]
    refine(mf j u v.b (by omega) w f m _).trans ?_
    simp only[c]<;>rfl
   ·rw[bY hlf2,gZ hlf2]
    simp only[c]<;>rfl
 by_cases q:n.1=10/\eZ t at_<n.2.2.2.2.1
 ·have o:gQ n at_ t=k0 t at_ 1:=by unfold gQ;rw[a0d y,a0f q]
  have p:jL n at_ t=t:=by unfold jL;rw[a0d y]
  have G:(n.1==6)=false:=by simpa using y
  have r:(n.1==10)=true:=by simp[q.1]
  simp only[EL,G,r,ai,ah,F,E,ac,a0b q.2,a0c,l];rw[o]at ty⊢;rw[p]at w⊢;rcases a0p A.1 with hlt|hlt
  ·rw[fw hlt,mf j u v.a (by omega) ty f z]
   simp only[i,ac];rw[bZ hlt];rcases a0p x.1 with hlf2|hlf2
   ·rw[bZ hlf2,fw hlf2]
    refine(mf j u v.b (by omega) w f m _).trans ?_
    simp only[c]<;>rfl
   ·rw[bY hlf2,gZ hlf2]
    simp only[c]<;>rfl
  ·rw[bY hlt,gZ hlt]
   simp only[i,ac];rcases a0p x.1 with hlf2|hlf2
   ·rw[bZ hlf2,fw hlf2]
    refine(mf j u v.b (by omega) w f m _).trans ?_
    simp only[c]<;>rfl
   ·rw[bY hlf2,gZ hlf2]
    simp only[c]<;>rfl
 ·have o:gQ n at_ t=t:=by unfold gQ;rw[a0d y,a0d q]
  have p:jL n at_ t=t:=by unfold jL;rw[a0d y]
  have G:(n.1==6)=false:=by simpa using y
  have hj:(br k (n.1==10) (some (decide (eZ t at_<n.2.2.2.2.1),())) (some (false,())):Option (Bool×Unit))=some (false,()):=by
   by_cases P:n.1=10
   ·have r:(n.1==10)=true:=by simp[P]
    rw[r,ai,a0m (λh2=>q ⟨P,h2⟩)]
   ·have r:(n.1==10)=false:=by simpa using P
    rw[r,ah]
  simp only[EL,G,ah,F,ac,hj,a0c,l];rw[o]at ty⊢;rw[p]at w⊢;rcases a0p A.1 with hlt|hlt
  ·rw[fw hlt,mf j u v.a (by omega) ty f z]
   simp only[i,ac];rw[bZ hlt];rcases a0p x.1 with hlf2|hlf2
   ·rw[bZ hlf2,fw hlf2]
    refine(mf j u v.b (by omega) w f m _).trans ?_
    simp only[c]<;>rfl
   ·rw[bY hlf2,gZ hlf2]
    simp only[c]<;>rfl
  ·rw[bY hlt,gZ hlt]
   simp only[i,ac];rcases a0p x.1 with hlf2|hlf2
   ·rw[bZ hlf2,fw hlf2]
    refine(mf j u v.b (by omega) w f m _).trans ?_
    simp only[c]<;>rfl
   ·rw[bY hlf2,gZ hlf2]
    simp only[c]<;>rfl
def NI (a:aO d=true) {v:Nat} (b:v<d.2.2.1.length):1<=d.2.2.1[v].2.1/\d.2.2.1[v].2.1<=16:=by
 simp only[aO,a0e,a0v]at a;have h:=a.2.1;unfold ya at h;simp only[a2o,a7p,a3z,Bool.not_eq_false',a0v]at h;exact a0w (by simpa using h _ (a0n b))
def If (c:bo a=true) (d:bo b=true):mQ a b=eX a b:=by
 unfold mQ bJ;rw[c,d];rfl
def FC (k:Nat) (m:aO d=true) (n:aV d e) (q:e.1=true) (o:0<=v/\v<(d.2.2.1.length:Int)) (place:bq) (r:bo a=true):Hv k (d,e,v,place,a,())=some ((rS d e v place a,oU d v place,()),((),(),(),(),(),())):=by
 obtain⟨s,y,t⟩:=bf n q;have c:v.toNat<d.2.2.1.length:=by omega
 have b:v.toNat<e.2.2.1.length:=by rw[s.arrs];exact c
 have h:d.2.2.1[v.toNat]?=some d.2.2.1[v.toNat]:=a0a c;have u:=NI m c;have i:=Bo k d o.1 h place;have f:CG k (d,v,place,())=some ((hY d.2.2.1[v.toNat] place,eB d.2.2.1[v.toNat] place,()),((),(),(),())):=i;have g:e.2.2.1[v.toNat]?=some (e.2.2.1.getD v.toNat dA):=by rw[bh b];exact a0a b
 have j:bo (e.2.2.1.getD v.toNat dA)=true:=by rw[bh b];exact t _ (a0n b)
 have w:rS d e v place a=cond (eB d.2.2.1[v.toNat] place) (e.1,e.2.1,e.2.2.1.set v.toNat (if d.2.2.1[v.toNat].2.1=1 then a else eX (e.2.2.1.getD v.toNat dA) a),()) bm:=by unfold rS;rw[h]
 have x:oU d v place=hY d.2.2.1[v.toNat] place:=by unfold oU;rw[h]
 have l:0<=v/\v<(e.2.2.1.length:Int):=by omega
 rw[w,x];simp only[Hv,f,ac,qv k e (bD m n).1,a0b o.1,ai,h,a0b l,g,uz,If j r]
 cases eB d.2.2.1[v.toNat] place
 ·simp only[a0u,ai,a1q,bm]
 ·simp only[a0o,ah,a1c]
  by_cases p:d.2.2.1[v.toNat].2.1=1
  ·rw[a0f p,a0m (by omega),ah]
  ·rw[a0d p,a0b (by omega),ai]
def FD (k:Nat) (m:aO d=true) (l:aV d e) (n:e.1=true) (o:0<=v/\v<(d.2.2.1.length:Int)) (place:bq) (s:bo a=true):ER k (d,e,v,place,a,())=some ((rS d e v place a,oU d v place,()),((),(),(),(),(),())):=by
 obtain⟨p,t,u⟩:=bf l n;have b:v.toNat<d.2.2.1.length:=by omega
 have c:v.toNat<e.2.2.1.length:=by rw[p.arrs];exact b
 have h:d.2.2.1[v.toNat]?=some d.2.2.1[v.toNat]:=a0a b;have i:=yn k place d.2.2.1[v.toNat];have f:e.2.2.1[v.toNat]?=some (e.2.2.1.getD v.toNat dA):=by rw[bh c];exact a0a c
 have q:rS d e v place a=cond (eB d.2.2.1[v.toNat] place) (e.1,e.2.1,e.2.2.1.set v.toNat (if d.2.2.1[v.toNat].2.1=1 then a else eX (e.2.2.1.getD v.toNat dA) a),()) bm:=by unfold rS;rw[h]
 have r:oU d v place=hY d.2.2.1[v.toNat] place:=by unfold oU;rw[h]
 have j:0<=v/\v<(e.2.2.1.length:Int):=by omega
 rw[q,r];simp only[ER,a0b o.1,ai,h,ac,i,kf k e (bD m l).1,a0b j,f,oI]
 cases eB d.2.2.1[v.toNat] place
 ·simp only[a0u,ai,a1q,bm]
 ·simp only[a0o,ah,a1c]
  by_cases g:d.2.2.1[v.toNat].2.1=1
  ·have:(d.2.2.1[v.toNat].2.1==1)=true:=by simp[g]
   rw[a0f g,this,ai]
  ·have:(d.2.2.1[v.toNat].2.1==1)=false:=by simpa using g
   rw[a0d g,this,ah]
def yT (d:aE) (n:bA) (leaf:Int) (e:bc):bc:=cond (aA (az d e leaf (dt d n.2.2.1))&& aA (az d e leaf (dt d n.2.2.2.1))) (rS d e n.2.1 (bu (az d e leaf (dt d n.2.2.1))) (bu (az d e leaf (dt d n.2.2.2.1)))) bm
def NJ (j:4194304<k) (t:aO d=true) (h:bt d n=true) (l:n.1=3) (at_:Int) (b:aV d e) (c:e.1=true) (s:List aI×List aI) (m:Int):KC k (gg d n at_ s m,iQ d e leaf,())=some ((yT d n leaf e,()),(gg d n at_ s (di m (bE d n leaf e)),(),())):=by
 obtain⟨u,v,E⟩:=Ja h l;obtain⟨o,w,F,x⟩:=dV (show bV d n.2.2.2.1≠0 by omega);obtain⟨y,z,G,A⟩:=dV (show bV d n.2.2.1≠0 by omega);obtain⟨p,H,I⟩:=bf b c;have B:=kR b c;have C:bE d n leaf e=cond (aA (az d e leaf (dt d n.2.2.1)))
  (cond (aA (az d e leaf (dt d n.2.2.2.1))) (di (di (bP (az d e leaf (dt d n.2.2.1))) (bP (az d e leaf (dt d n.2.2.2.1)))) (oU d n.2.1 (bu (az d e leaf (dt d n.2.2.1))))) (di (bP (az d e leaf (dt d n.2.2.1))) (bP (az d e leaf (dt d n.2.2.2.1)))))
  (bP (az d e leaf (dt d n.2.2.1))):=by
  unfold bE;rw[ifNegQ,a0f l]
 have f:=λa=>na j p leaf y A n at_ s a
 have g:=λa=>na j p leaf o x n at_ s a
 rw[<-z]at f;rw[<-w]at g;rw[C];unfold yT;simp only[gg,iQ]at f g⊢;simp only[KC,f,ac];have q:(az d e leaf (dt d n.2.2.1)).2.2.1=aA (az d e leaf (dt d n.2.2.1)):=rfl;have r:(az d e leaf (dt d n.2.2.2.1)).2.2.1=aA (az d e leaf (dt d n.2.2.2.1)):=rfl;rcases a0p (aA (az d e leaf (dt d n.2.2.1)))with h1|h1
 ·rw[q,fw h1]
  simp only[g,ac];rcases a0p (aA (az d e leaf (dt d n.2.2.2.1)))with h2|h2
  ·rw[r,fw h2,cT (show(aA (az d e leaf (dt d n.2.2.1))&& aA (az d e leaf (dt d n.2.2.2.1)))=true by rw[h1,h2];rfl),cT h1,cT h2]
   have D:=FC k t b c u (bu (az d e leaf (dt d n.2.2.1))) ((iN B leaf o).1 h2);have i:Hv k ((d.1,d.2.1,d.2.2.1,()),(e.1,e.2.1,e.2.2.1,()),n.2.1,((az d e leaf (dt d n.2.2.1)).1,(az d e leaf (dt d n.2.2.1)).2.1,()),((az d e leaf (dt d n.2.2.2.1)).1,(az d e leaf (dt d n.2.2.2.1)).2.1,()),())=_:=D;simp only[i,ac];rw[<-c7,<-c7];rfl
  ·rw[r,gZ h2,cF (show(aA (az d e leaf (dt d n.2.2.1))&& aA (az d e leaf (dt d n.2.2.2.1)))=false by rw[h1,h2];rfl),cT h1,cF h2,<-c7]
   rfl
 ·rw[q,gZ h1,cF (show(aA (az d e leaf (dt d n.2.2.1))&& aA (az d e leaf (dt d n.2.2.2.1)))=false by rw[h1];rfl),cF h1]
  rfl
def yU (f:Nat->m7) (s:List aI×List aI) (i:Nat):((List.range (i+1)).map f).foldl (bM d) s=bM d (((List.range i).map f).foldl (bM d) s) (f i):=by
 rw[a8k,a3r,a3g];rfl
def NK (k:Nat) (h:bt d n=true) (a:n.1=13) (b:(i:Int)<=n.2.2.2.2.2.1-n.2.2.2.2.1):Hp k (n,n.2.2.2.2.1+(i:Int),())=some (((i:Int),()),((),(),())):=by
 obtain⟨⟨c,e⟩,f,g,j,l⟩:=qA h a;simp only[Hp,dh,ac];rw[a0b (show n.2.2.2.2.1<=n.2.2.2.2.1+(i:Int)/\n.2.2.2.2.1+(i:Int)<=n.2.2.2.2.2.1 by omega),a0o,ah,aj (by omega) (by omega)];rw[show n.2.2.2.2.1+(i:Int)-n.2.2.2.2.1=(i:Int) by omega]
def NL (S:4194304<k) (I:aO d=true) (h:bt d n=true) (q:n.1=13) (at_:Int) (t:List cG) (z:dv d leaf) (A:aV d e) (w:e.1=true) (hs:ge d s) (hn:s.1.length+s.2.length<=80000) (U:ax al):zX k (gg d n at_ s al,t,iQ d e leaf,())=some ((),(gg d n at_ ((bN d n at_ t leaf e).foldl (bM d) s) (di al (bE d n leaf e)),(),(),())):=by
 obtain⟨⟨v0,v1⟩,b0,b1,b2,b3⟩:=qA h q;obtain⟨hE,hi,hr⟩:=bf A w;have V:=(bD I A).1;have em:bN d n at_ t leaf e=ix n at_ t leaf e:=by
  unfold bN;rw[ifNegQ,ifNegQ,ifNegQ,ifNegQ,a0f q]
 have la:bE d n leaf e=0:=by unfold bE;rw[ifPosQ]
 have p:=qB h q at_ (t:=t) z A w;rw[em,la,gG U];have T:n.2.1.toNat<e.2.1.length:=by rw[hE.ints];omega
 have x:e.2.1[n.2.1.toNat]?=some (e.2.1.getD n.2.1.toNat dA):=by rw[bh T];exact a0a T
 obtain⟨c,l⟩:∃o,o=e.2.1.getD n.2.1.toNat dA:=⟨_,rfl⟩;have J:0<=n.2.1/\n.2.1<(e.2.1.length:Int):=by omega
 have y:=λa=>qw k V J a
 obtain⟨m,hm⟩:∃m:Nat,(m:Int)=n.2.2.2.2.2.1-n.2.2.2.2.1+1:=⟨(n.2.2.2.2.2.1-n.2.2.2.2.1+1).toNat,by omega⟩;have W:(n.2.2.2.2.2.1-n.2.2.2.2.1+1).toNat=m:=by omega
 unfold ix at p⊢;rw[W]at p⊢;rw[a3g,a1t,a2u];have sg:∀i,i<=m->ge d (((List.range i).map (dl n at_ t leaf e)).foldl (bM d) s)/\(((List.range i).map (dl n at_ t leaf e)).foldl (bM d) s).1.length+(((List.range i).map (dl n at_ t leaf e)).foldl (bM d) s).2.length<=80000+i:=by
  intro i X;refine⟨iw hs λa ha=> ?_,?_⟩
  ·obtain⟨j,hj,rfl⟩:=a4q.1 ha
   exact p _ (a0k.2 (Or.inl (a4q.2 ⟨j,a2f.2 (by have:=a2f.1 hj;omega),rfl⟩)))
  ·have:=kO d ((List.range i).map (dl n at_ t leaf e)) s
   simp only[a4e,a5t]at this;omega
 unfold gg iQ;simp only[zX,a0b v0,ai,x,ac];rw[<-l]at x⊢;have B:n.2.2.2.2.1=n.2.2.2.2.1+((0:Nat):Int):=by omega
 refine Eq.trans (?_:_=aH (zX.l0 k) k ((λi:Nat=>(gg d n at_ (((List.range i).map (dl n at_ t leaf e)).foldl (bM d) s) al,t,iQ d e leaf,c,n.2.2.2.2.1+(i:Int),())) 0)) (bg (b:=zX.l0 k) (λi:Nat=>(gg d n at_ (((List.range i).map (dl n at_ t leaf e)).foldl (bM d) s) al,t,iQ d e leaf,c,n.2.2.2.2.1+(i:Int),())) m (λG i X=> ?_) (λG=> ?_) (by omega))
 ·simp only[gg,iQ]
  rw[<-B];rfl
 ·obtain⟨Y,Z⟩:=sg i (by omega)
  have R0:=NK k h q (i:=i) (by omega);have K:Hp k ((n.1,n.2.1,n.2.2.1,n.2.2.2.1,n.2.2.2.2.1,n.2.2.2.2.2.1,()),n.2.2.2.2.1+(i:Int),())=_:=R0;have g:∀a,IN k ((e.1,e.2.1,e.2.2.1,()),n.2.1,a,())=_:=y;rw[yU];have L:dl n at_ t leaf e i=(false,k0 t at_ (i:Int),leaf,cond (eu c (n.2.2.2.2.1+(i:Int))) (aT e n.2.1 (n.2.2.2.2.1+(i:Int),n.2.2.2.2.1+(i:Int),())) bm):=by unfold dl;rw[<-l]
  rw[L];have M:wrap .i64 (n.2.2.2.2.1+(i:Int)+1)=n.2.2.2.2.1+((i+1:Nat):Int):=by rw[aj (by omega) (by omega)];omega
  simp only[gg,iQ];simp only[zX.l0];rw[a0b (show n.2.2.2.2.1+(i:Int)<=n.2.2.2.2.2.1 by omega),ai,M];have hiv:EF k ((c.1,c.2.1,()),n.2.2.2.2.1+(i:Int),())=some ((eu c (n.2.2.2.2.1+(i:Int)),()),((),(),())):=mR k c _;have eg:aV d (aT e n.2.1 (n.2.2.2.2.1+(i:Int),n.2.2.2.2.1+(i:Int),())):=fc A w _ ⟨by unfold ax;simp only;omega,by unfold ax;simp only;omega⟩ (a0b (a5g _));simp only[hiv,ac,K,oS S,jJ,g];unfold bM;rcases a0p (eu c (n.2.2.2.2.1+(i:Int)))with hc|hc
  ·rw[hc,ai,cT rfl,cF rfl,bZ (show(aT e n.2.1 (n.2.2.2.2.1+(i:Int),n.2.2.2.2.1+(i:Int),())).1=true from w),fw (show(aT e n.2.1 (n.2.2.2.2.1+(i:Int),n.2.2.2.2.1+(i:Int),())).1=true from w)]
   refine(mf S I Y.b (by omega) (jZ t at_ (i:Int)) z eg _).trans ?_
   rfl
  ·rw[hc,ah,cF rfl,cF rfl,bY rfl]
 ·obtain⟨R1,Z⟩:=sg m (a1m _)
  have N:=tG h q A w;have w1:wrap .i64 (n.2.2.2.2.1-1)=n.2.2.2.2.1-1:=aj (by omega) (by omega);have w2:wrap .i64 (n.2.2.2.2.2.1+1)=n.2.2.2.2.2.1+1:=aj (by omega) (by omega);have w3:wrap .i64 (n.2.2.2.2.2.1-n.2.2.2.2.1)=n.2.2.2.2.2.1-n.2.2.2.2.1:=aj (by omega) (by omega);have w4:wrap .i64 (n.2.2.2.2.2.1-n.2.2.2.2.1+1)=n.2.2.2.2.2.1-n.2.2.2.2.1+1:=aj (by omega) (by omega);have w5:wrap .i64 (0+1)=1:=aj (by omega) (by omega);have w6:wrap .i64 (1+1)=2:=aj (by omega) (by omega);have fi:bi c:=by rw[l,bh T];exact hE.fi _ (a0n T)
  have hB:ee n e=dR c (-9223372036854775808,n.2.2.2.2.1-1,()):=by unfold ee;rw[l]
  have hA:eL n e=dR c (n.2.2.2.2.2.1+1,9223372036854775807,()):=by unfold eL;rw[l]
  have O:aV d (cond (ee n e).2.1 (aT e n.2.1 (ee n e).1) bm):=jl λhc=>fc A w _ (by rw[hB];exact l9 fi ⟨by unfold ax;simp only;omega,by unfold ax;simp only;omega⟩) (rJ hc)
  have gA:aV d (cond (eL n e).2.1 (aT e n.2.1 (eL n e).1) bm):=jl λhc=>fc A w _ (by rw[hA];exact l9 fi ⟨by unfold ax;simp only;omega,by unfold ax;simp only;omega⟩) (rJ hc)
  have g:∀a,IN k ((e.1,e.2.1,e.2.2.1,()),n.2.1,a,())=_:=y;obtain⟨u,C⟩:∃r,r=cond (ee n e).2.1 (aT e n.2.1 (ee n e).1) bm:=⟨_,rfl⟩;obtain⟨D,P⟩:∃r,r=uZ n e:=⟨_,rfl⟩;have E:∀G,zX.l2 k G (gg d n at_ (((List.range m).map (dl n at_ t leaf e)).foldl (bM d) s) al,t,iQ d e leaf,c,bm,([((-9223372036854775808),n.2.2.2.2.1-1,()),(n.2.2.2.2.2.1+1,9223372036854775807,())]:List bq),2,0,())=G (gg d n at_ (((List.range m).map (dl n at_ t leaf e)).foldl (bM d) s) al,t,iQ d e leaf,c,u,([((-9223372036854775808),n.2.2.2.2.1-1,()),(n.2.2.2.2.2.1+1,9223372036854775807,())]:List bq),2,1,()):=by
   intro G;have F:A3 k ((c.1,c.2.1,()),((-9223372036854775808:Int),n.2.2.2.2.1-1,()),())=some (ee n e,((),(),())):=by rw[hB];exact jD k c _
   simp only[gg,iQ,bm];simp only[zX.l2];rw[a0b (show(0:Int)<2 by omega),a0b (show(0:Int)<=0/\(0:Int)<(([((-9223372036854775808),n.2.2.2.2.1-1,()),(n.2.2.2.2.2.1+1,9223372036854775807,())]:List bq).length:Int) by simp)];simp only[ai,a3l,a1r,ac,F,g,w5];rw[C];rcases a0p (ee n e).2.1 with hc|hc
   ·have gs:aV d (aT e n.2.1 (ee n e).1):=by rw[hc]at O;exact O
    have M:EJ k ((false,[],[],()),aT e n.2.1 (ee n e).1,(()),())=some ((cE bm (aT e n.2.1 (ee n e).1),()),((),(),(),())):=mZ (by omega) I (dN d) gs;rw[hc,ai];simp only[M,ac];rfl
   ·rw[hc,ah]
    rfl
  have H:∀G,zX.l2 k G (gg d n at_ (((List.range m).map (dl n at_ t leaf e)).foldl (bM d) s) al,t,iQ d e leaf,c,u,([((-9223372036854775808),n.2.2.2.2.1-1,()),(n.2.2.2.2.2.1+1,9223372036854775807,())]:List bq),2,1,())=G (gg d n at_ (((List.range m).map (dl n at_ t leaf e)).foldl (bM d) s) al,t,iQ d e leaf,c,D,([((-9223372036854775808),n.2.2.2.2.1-1,()),(n.2.2.2.2.2.1+1,9223372036854775807,())]:List bq),2,2,()):=by
   intro G;have F:A3 k ((c.1,c.2.1,()),(n.2.2.2.2.2.1+1,(9223372036854775807:Int),()),())=some (eL n e,((),(),())):=by rw[hA];exact jD k c _
   have g1:([((-9223372036854775808),n.2.2.2.2.1-1,()),(n.2.2.2.2.2.1+1,9223372036854775807,())]:List bq)[(1:Int).toNat]?=some (n.2.2.2.2.2.1+1,9223372036854775807,()):=rfl;simp only[gg,iQ];simp only[zX.l2];rw[a0b (show(1:Int)<2 by omega),a0b (show(0:Int)<=1/\(1:Int)<(([((-9223372036854775808),n.2.2.2.2.1-1,()),(n.2.2.2.2.2.1+1,9223372036854775807,())]:List bq).length:Int) by simp)];simp only[ai,g1,ac,F,g,w6];have v:D=cE u (cond (eL n e).2.1 (aT e n.2.1 (eL n e).1) bm):=by rw[P,C];rfl
   rw[<-C]at O;rcases a0p (eL n e).2.1 with hc|hc
   ·have gs:aV d (aT e n.2.1 (eL n e).1):=by rw[hc]at gA;exact gA
    have M:EJ k ((u.1,u.2.1,u.2.2.1,()),aT e n.2.1 (eL n e).1,(()),())=some ((cE u (aT e n.2.1 (eL n e).1),()),((),(),(),())):=mZ (by omega) I O gs;rw[hc]at v;rw[hc,ai,v];simp only[M,ac];rfl
   ·rw[hc]at v
    have:cE u bm=u:=by
     unfold cE;rcases a0p u.1 with h1|h1
     ·rw[cT h1];rfl
     ·rw[cF h1,po O h1]
    rw[hc,ah,v,a1q,this]
  have Q:∀G,zX.l2 k G (gg d n at_ (((List.range m).map (dl n at_ t leaf e)).foldl (bM d) s) al,t,iQ d e leaf,c,D,([((-9223372036854775808),n.2.2.2.2.1-1,()),(n.2.2.2.2.2.1+1,9223372036854775807,())]:List bq),2,2,())=some ((),(gg d n at_ (bM d (((List.range m).map (dl n at_ t leaf e)).foldl (bM d) s) (false,k0 t at_ (n.2.2.2.2.2.1-n.2.2.2.2.1+1),leaf,uZ n e)) al,(),(),())):=by
   intro G;rw[<-P]at N⊢;simp only[gg,iQ];simp only[zX.l2];rw[a0m (show¬(2:Int)<2 by omega),ah,w3,w4];simp only[oS S,ac];unfold bM;rcases a0p D.1 with hc|hc
   ·rw[cF rfl,bZ hc,fw hc]
    refine(mf S I R1.b (by omega) (jZ t at_ _) z (show aV d (D.1,D.2.1,D.2.2.1,())from N) _).trans ?_
    rfl
   ·rw[cF rfl,bY hc,gZ hc]
  obtain⟨f,hf⟩:∃f,k=f+1+1+1:=⟨k-3,by omega⟩;have R2:(([((-9223372036854775808),n.2.2.2.2.1-1,()),(n.2.2.2.2.2.1+1,9223372036854775807,())]:List bq).length:Int)=2:=rfl;have R:aH (zX.l2 k) k (gg d n at_ (((List.range m).map (dl n at_ t leaf e)).foldl (bM d) s) al,t,iQ d e leaf,c,bm,([((-9223372036854775808),n.2.2.2.2.1-1,()),(n.2.2.2.2.2.1+1,9223372036854775807,())]:List bq),2,0,())=some ((),(gg d n at_ (bM d (((List.range m).map (dl n at_ t leaf e)).foldl (bM d) s) (false,k0 t at_ (n.2.2.2.2.2.1-n.2.2.2.2.1+1),leaf,uZ n e)) al,(),(),())):=by
   conv=>lhs;arg 2;rw[hf]
   rw[aD,E,aD,H,aD,Q]
  simp only[gg,iQ]at R⊢;simp only[zX.l0];rw[a0m (show¬n.2.2.2.2.1+(m:Int)<=n.2.2.2.2.2.1 by omega),ah,w1,w2];exact R
def Qc (m:4194304<k) (o:aO d=true) (h:bt d n=true) (u:n.1=11\/n.1=12) (at_:Int) (v:aZ t=true) (c:dv d leaf) (p:aV d e) (w:e.1=true) (x:ge d s) (C:s.1.length+s.2.length<=80000) (f:Int):z8.h23 k (gg d n at_ s f,t,iQ d e leaf,())=some ((),(gg d n at_ (bM d s (false,t,leaf,c9 d leaf (dt d n.2.2.2.1) true e)) (di f (bP (az d e leaf (dt d n.2.2.2.1)))),(),(),())):=by
 have y:=BK h;obtain⟨q,z,A,B⟩:=dV (show bV d n.2.2.2.1≠0 by omega);have i:(dt d n.2.2.2.1).kind=2:=by rw[<-A];exact y
 have j:=nb m o p w leaf q i B true z at_ s f;have r:=dB leaf q true p;obtain⟨a,l⟩:∃g,g=c9 d leaf (dt d n.2.2.2.1) true e:=⟨_,rfl⟩;rw[<-l]at r j⊢;simp only[gg,iQ]at j⊢;simp only[z8.h23,j,ac];unfold bM;rcases a0p a.1 with hc|hc
 ·rw[cF rfl,bZ hc,fw hc]
  refine(mf m o x.b (by omega) v c (show aV d (a.1,a.2.1,a.2.2.1,())from r) _).trans ?_
  rfl
 ·rw[cF rfl,bY hc,gZ hc]
def NM (p:4194304<k) (x:aO d=true) (h:bt d n=true) (g:n.1=11\/n.1=12) (at_:Int) (y:aZ t=true) (i:dv d leaf) (q:aV d e) (r:e.1=true) (z:ge d s) (A:s.1.length+s.2.length<=80000) (b:Int):z8.h20 k (gg d n at_ s b,t,iQ d e leaf,())=some ((),(gg d n at_ ((bN d n at_ t leaf e).foldl (bM d) s) (di b (bE d n leaf e)),(),(),())):=by
 have I:=BK h;obtain⟨u,B,J,C⟩:=dV (show bV d n.2.2.2.1≠0 by omega);obtain⟨w,K,L⟩:=bf q r;have j:=(ce w leaf u).2;have D:bN d n at_ t leaf e=[(false,t,leaf,c9 d leaf (dt d n.2.2.2.1) true e)]:=by
  unfold bN;rw[ifNegQ,ifNegQ,ifNegQ,ifNegQ,ifNegQ,ifNegQ,ifPosQ]
 have f:=na p w leaf u C n at_ s b;rw[<-B]at f;have a:=λl=>Qc p x h g at_ y i q r z A l
 rw[D,a1t,a2u];obtain⟨v,c⟩:∃v,v=az d e leaf (dt d n.2.2.2.1):=⟨_,rfl⟩;have E:v.2.2.1=aA v:=rfl;have F:EF k ((v.1,v.2.1,()),0,())=some ((eu (bu v) 0,()),((),(),())):=mR k _ _;rw[<-c]at f j a;have m:bE d n leaf e=if n.1=11 then cond (aA v&& eu (bu v) 0) (di (bP v) 8) (bP v)else bP v:=by
  unfold bE;rw[ifNegQ,ifNegQ,<-c]
 rw[m];have G:(br k (n.1==11) (br k v.2.2.1 (some (eu (bu v) 0,())) (some (false,()))) (some (false,())):Option (Bool×Unit))=some ((n.1==11)&& (aA v&& eu (bu v) 0),()):=by
  rw[E]
  cases (n.1==11)<;>cases aA v<;>simp
 simp only[gg,iQ]at f a⊢;simp only[z8.h20,f,ac,F,G,a0c,ni];rcases a0p ((n.1==11)&& (aA v&& eu (bu v) 0))with hc|hc
 ·rw[hc,ai]
  refine(a (di (di b (bP v)) 8)).trans ?_
  simp only[a0e,a3b]at hc;rw[a0f hc.1,cT (by rw[hc.2.1,hc.2.2];rfl)];have:di (di (di b (bP v)) 8) (bP v)=di b (di (bP v) 8):=by
   rw[c7,c7,Fe 8,O3 j]
  rw[this]
 ·rw[hc,ah]
  refine(a (di b (bP v))).trans ?_
  rw[c7,rH j];by_cases o:n.1=11
  ·rw[a0f o]
   have H:(n.1==11)=true:=by simp[o]
   rw[H,a1n]at hc;rw[cF hc]
  ·rw[a0d o]
def Qd (o:4194304<k) (p:aO d=true) (h:bt d n=true) (z:n.1=7\/n.1=8\/n.1=13\/n.1=14) (at_:Int) (v:aZ t=true) (c:dv d leaf) (q:aV d e) (l:e.1=true) (r:ge d s) (w:s.1.length+s.2.length<=80000) (m:ax al):z8.h24 k (gg d n at_ s al,t,iQ d e leaf,n.1,())=some ((),(gg d n at_ ((bN d n at_ t leaf e).foldl (bM d) s) (di al (bE d n leaf e)),(),(),())):=by
 by_cases f:n.1=13
 ·have a:(n.1==13)=true:=by simp[f]
  have g:=NL o p h f at_ t c q l r w m;obtain⟨S,x⟩:∃S,S=(bN d n at_ t leaf e).foldl (bM d) s:=⟨_,rfl⟩;rw[<-x]at g⊢;simp only[gg,iQ]at g⊢;simp only[z8.h24,a,ai,g,ac]
 ·have a:(n.1==13)=false:=by simpa using f
  have y:bE d n leaf e=0:=by unfold bE;rw[ifPosQ]
  rw[y,gG m];by_cases i:n.1=14
  ·have j:(n.1==14)=true:=by simp[i]
   have u:bN d n at_ t leaf e=[(false,[],leaf,e)]:=by
    unfold bN;rw[ifNegQ,ifNegQ,ifNegQ,ifNegQ,ifNegQ,a0f i]
   rw[u,a1t,a2u];simp only[gg,iQ];simp only[z8.h24,a,ah,j,ai];unfold bM;rw[cF rfl,bZ l,fw l];refine(mf o p r.b (by omega) (show aZ []=true from rfl) c (show aV d (e.1,e.2.1,e.2.2.1,())from q) _).trans ?_
   rfl
  ·have j:(n.1==14)=false:=by simpa using i
   have u:bN d n at_ t leaf e=[(false,t,leaf,e)]:=by
    unfold bN;rw[ifNegQ,ifNegQ,ifNegQ,ifNegQ,ifNegQ,ifNegQ,ifNegQ,ifPosQ]
   rw[u,a1t,a2u];simp only[gg,iQ];simp only[z8.h24,a,ah,j];unfold bM;rw[cF rfl,bZ l,fw l];refine(mf o p r.b (by omega) v c (show aV d (e.1,e.2.1,e.2.2.1,())from q) _).trans ?_
   rfl
def Pd (q:4194304<k) (l:aO d=true) (h:bt d n=true) (at_:Int) (r:aZ t=true) (f:dv d leaf) (m:aV d e) (j:e.1=true) (A:ge d s) (J:s.1.length+s.2.length<=80000) (K:ax al):z8 k (gg d n at_ s al,t,iQ d e leaf,())=some ((),(gg d n at_ ((bN d n at_ t leaf e).foldl (bM d) s) (di al (bE d n leaf e)),(),(),())):=by
 have R0:=tF h;obtain⟨X,hi,hr⟩:=bf m j;have hR:=kR m j;have L:=(bD l m).1;by_cases G:n.1=1
 ·obtain⟨M,hx⟩:=I8 h G
  obtain⟨x1,x2,x3,x4⟩:=dV (show bV d n.2.2.2.1≠0 by omega);have u:(n.1==1)=true:=by simp[G]
  have N:bN d n at_ t leaf e=[(false,t,leaf,cond (aA (az d e leaf (dt d n.2.2.2.1))) (aT e n.2.1 (bu (az d e leaf (dt d n.2.2.2.1)))) bm)]:=by
   unfold bN;rw[a0f G]
  have la:bE d n leaf e=bP (az d e leaf (dt d n.2.2.2.1)):=by
   unfold bE;rw[ifNegQ,ifNegQ,ifNegQ]
  rw[N,la,a1t,a2u];have w:=na q X leaf x1 x4 n at_ s al;rw[<-x2]at w;obtain⟨v,C⟩:∃v,v=az d e leaf (dt d n.2.2.2.1):=⟨_,rfl⟩;have fv:bi (bu v):=by rw[C];exact(ce X leaf x1).1
  have ov:Lx v:=by rw[C];exact(iN hR leaf x1).1
  rw[<-C]at w⊢;have ea:v.2.2.1=aA v:=rfl;have o:IN k ((e.1,e.2.1,e.2.2.1,()),n.2.1,(v.1,v.2.1,()),())=some ((aT e n.2.1 (bu v),()),((),(),(),())):=qw k L ⟨M.1,by rw[X.ints];exact M.2⟩ _;simp only[gg,iQ]at w⊢;simp only[z8,u,ai,w,ac,o];unfold bM;rcases a0p (aA v)with hc|hc
  ·have H:=fc m j n.2.1 fv (ov hc)
   have p:(aT e n.2.1 (bu v)).1=true:=j;rw[ea,hc,ai,cF rfl,cT rfl,bZ p,fw p];refine(mf q l A.b (by omega) r f (show aV d ((aT e n.2.1 (bu v)).1,(aT e n.2.1 (bu v)).2.1,(aT e n.2.1 (bu v)).2.2.1,())from H) _).trans ?_
   rfl
  ·rw[ea,hc,ah,cF rfl,cF rfl,bY rfl]
 have u:(n.1==1)=false:=by simpa using G
 by_cases O:n.1=2
 ·have x:(n.1==2)=true:=by simp[O]
  have a:=Pc q l h O at_ r f m j A J al;obtain⟨S,y⟩:∃S,S=(bN d n at_ t leaf e).foldl (bM d) s:=⟨_,rfl⟩;rw[<-y]at a⊢;simp only[gg,iQ]at a⊢;simp only[z8,u,x,ai,ah,a,ac]
 have x:(n.1==2)=false:=by simpa using O
 by_cases P:n.1=3
 ·have B:(n.1==3)=true:=by simp[P]
  have a:=NJ q l h P at_ (leaf:=leaf) m j s al;have N:bN d n at_ t leaf e=[(false,t,leaf,yT d n leaf e)]:=by
   unfold bN;rw[a0d G,a0d O,a0f P];rfl
  have Q:=m9 l h at_ r f m j;rw[N]at Q⊢;have H:aV d (yT d n leaf e):=(Q _ a5l).e;obtain⟨g,hg⟩:∃g,g=yT d n leaf e:=⟨_,rfl⟩;rw[<-hg]at H a⊢;rw[a1t,a2u];simp only[gg,iQ]at a⊢;simp only[z8,u,x,B,ai,ah,a,ac];unfold bM;rcases a0p g.1 with hc|hc
  ·rw[cF rfl,bZ hc,fw hc]
   refine(mf q l A.b (by omega) r f (show aV d (g.1,g.2.1,g.2.2.1,())from H) _).trans ?_
   rfl
  ·rw[cF rfl,bY hc,gZ hc]
 have B:(n.1==3)=false:=by simpa using P
 by_cases Y:n.1=4
 ·have D:(n.1==4)=true:=by simp[Y]
  obtain⟨M,c0,c1,c2⟩:=NG h Y;have N:bN d n at_ t leaf e=[(false,t,leaf,aT e n.2.1 (n.2.2.2.2.1,n.2.2.2.2.2.1,()))]:=by
   unfold bN;rw[a0d G,a0d O,a0d P,a0f Y]
  have la:bE d n leaf e=0:=by unfold bE;rw[ifPosQ]
  have Q:=m9 l h at_ r f m j;rw[N]at Q⊢;rw[la,gG K];have H:aV d (aT e n.2.1 (n.2.2.2.2.1,n.2.2.2.2.2.1,())):=(Q _ a5l).e;have p:(aT e n.2.1 (n.2.2.2.2.1,n.2.2.2.2.2.1,())).1=true:=j;have o:IN k ((e.1,e.2.1,e.2.2.1,()),n.2.1,(n.2.2.2.2.1,n.2.2.2.2.2.1,()),())=some ((aT e n.2.1 (n.2.2.2.2.1,n.2.2.2.2.2.1,()),()),((),(),(),())):=qw k L ⟨M.1,by rw[X.ints];exact M.2⟩ _;rw[a1t,a2u];simp only[gg,iQ];simp only[z8,u,x,B,D,ai,ah,o,ac];unfold bM;rw[cF rfl,bZ p,fw p];refine(mf q l A.b (by omega) r f H _).trans ?_
  rfl
 have D:(n.1==4)=false:=by simpa using Y
 have c:n.1=5\/n.1=6\/n.1=9\/n.1=10->z8.h17 k (gg d n at_ s al,t,iQ d e leaf,())=some ((),(gg d n at_ ((bN d n at_ t leaf e).foldl (bM d) s) (di al (bE d n leaf e)),(),(),())):=by
  intro R;have a:=LG q l h R at_ r f m j A J al;obtain⟨S,y⟩:∃S,S=(bN d n at_ t leaf e).foldl (bM d) s:=⟨_,rfl⟩;rw[<-y]at a⊢;simp only[gg,iQ]at a⊢;simp only[z8.h17,a,ac]
 have i:¬(n.1=5\/n.1=6\/n.1=9\/n.1=10)->z8.h18 k (gg d n at_ s al,t,iQ d e leaf,n.1,())=some ((),(gg d n at_ ((bN d n at_ t leaf e).foldl (bM d) s) (di al (bE d n leaf e)),(),(),())):=by
  intro R;obtain⟨S,y⟩:∃S,S=(bN d n at_ t leaf e).foldl (bM d) s:=⟨_,rfl⟩;by_cases T:n.1=11
  ·have a:=NM q l h (by omega) at_ r f m j A J al
   have z:(n.1==11)=true:=by simp[T]
   rw[<-y]at a⊢;simp only[gg,iQ]at a⊢;simp only[z8.h18,z,ai,ni,a]
  ·have z:(n.1==11)=false:=by simpa using T
   by_cases U:n.1=12
   ·have a:=NM q l h (by omega) at_ r f m j A J al
    have E:(n.1==12)=true:=by simp[U]
    rw[<-y]at a⊢;simp only[gg,iQ]at a⊢;simp only[z8.h18,z,E,ai,ah,ni,a]
   ·have a:=Qd q l h (by omega) at_ r f m j A J K
    have E:(n.1==12)=false:=by simpa using U
    rw[<-y]at a⊢;simp only[gg,iQ]at a⊢;simp only[z8.h18,z,E,ai,ah,ni,a]
 obtain⟨S,y⟩:∃S,S=(bN d n at_ t leaf e).foldl (bM d) s:=⟨_,rfl⟩;rw[<-y]at c i⊢;by_cases R:n.1=5
 ·have a:=c (by omega)
  have I:(n.1==5)=true:=by simp[R]
  simp only[gg,iQ]at a⊢;simp only[z8,u,x,B,D,I,ai,ah,ni,a]
 have I:(n.1==5)=false:=by simpa using R
 by_cases h6:n.1=6
 ·have a:=c (by omega)
  have V:(n.1==6)=true:=by simp[h6]
  simp only[gg,iQ]at a⊢;simp only[z8,u,x,B,D,I,V,ai,ah,ni,a]
 have V:(n.1==6)=false:=by simpa using h6
 by_cases h9:n.1=9
 ·have a:=c (by omega)
  have Z:(n.1==9)=true:=by simp[h9]
  simp only[gg,iQ]at a⊢;simp only[z8,u,x,B,D,I,V,Z,ai,ah,ni,a]
 have Z:(n.1==9)=false:=by simpa using h9
 by_cases W:n.1=10
 ·have a:=c (by omega)
  have F:(n.1==10)=true:=by simp[W]
  simp only[gg,iQ]at a⊢;simp only[z8,u,x,B,D,I,V,Z,F,ai,ah,ni,a]
 have F:(n.1==10)=false:=by simpa using W
 have a:=i (by omega);simp only[gg,iQ]at a⊢;simp only[z8,u,x,B,D,I,V,Z,F,ai,ah,ni,a]
abbrev gJ:=Int×List aI×Unit
abbrev qC:=List gJ×Int×Bool×Unit
def dw (d:aE) (n:bA) (at_:Int) (t:List cG) (T:List bc) (j:Nat):List m7:=cond (T.getD j bm).1 (bN d n at_ t (j:Int) (T.getD j bm)) []
def kS (d:aE) (n:bA) (T:List bc) (j:Nat):Int:=cond (T.getD j bm).1 (bE d n (j:Int) (T.getD j bm)) 0
def kU (d:aE) (n:bA) (at_:Int) (p:aI):List m7:=(List.range p.2.1.length).flatMap (dw d n at_ p.1 p.2.1)
def ig (d:aE) (n:bA) (b:Int) (p:aI):Int:=(List.range p.2.1.length).foldl (λa j=>di a (kS d n p.2.1 j)) b
def ff (d:aE) (n:bA) (at_:Int) (l:List aI):List m7:=l.flatMap (kU d n at_)
def qD (d:aE) (n:bA) (l:List aI):Int:=l.foldl (ig d n) 0
def iV (d:aE) (n:bA) (at_:Int) (l:List aI):List aI×List aI:=(ff d n at_ l).foldl (bM d) ([],[])
def nc (at_ a:Int) (s:List aI×List aI):List gJ:=(if s.1.length>0 then [(at_+1,s.1,())]else [])++(if s.2.length>0 then [(a,s.2,())]else [])
def jQ (d:aE) (n:bA) (at_ a:Int) (l:List aI):qC:=cond (decide ((iV d n at_ l).1.length>100)||decide ((iV d n at_ l).2.length>100)) ([],0,true,()) (nc at_ a (iV d n at_ l),qD d n l,false,())
def FE (d:aE):eK d []:=⟨λx a=>(by cases a),List.Pairwise.nil⟩
def pw (d:aE):ge d ([],[]):=⟨FE d,FE d⟩
def pW (g:aO d=true) (h:bt d n=true) (at_:Int) (b:fP d p) {j:Nat} (f:j<p.2.1.length):(∀a∈dw d n at_ p.1 p.2.1 j,rR d a)/\(dw d n at_ p.1 p.2.1 j).length<=5:=by
 have i:p.2.1.getD j bm∈p.2.1:=by rw[bh f];exact a0n f
 have k:=b.m.e _ i;have c:dv d (j:Int):=⟨by omega,by
  have:=b.m.n;have l:((j:Nat):Int)<((2^d.2.1.length:Nat):Int):=by omega
  simpa using l⟩
 unfold dw;rcases a0p (p.2.1.getD j bm).1 with hc|hc
 ·rw[cT hc];exact⟨m9 g h at_ b.t c k hc,LF h _ _ _ _⟩
 ·rw[cF hc];exact⟨λa o=>(by cases o),a4j _⟩
def lM {α β:Type} (f:α->List β) (b:Nat):∀(l:List α),(∀x∈l,(f x).length<=b)->(l.flatMap f).length<=l.length*b
 |[],_=>by simp
 |x::l,h=>by
  have c:=lM f b l (λy a=>h y (by simp[a]));have d:=h x (by simp);simp only[a6o,a0j,a0h,a1a];omega
def jv (b:aO d=true) (h:bt d n=true) (at_:Int) (c:fP d p) {m:Nat} (g:m<=p.2.1.length:=by omega):(∀a∈(List.range m).flatMap (dw d n at_ p.1 p.2.1),rR d a)/\((List.range m).flatMap (dw d n at_ p.1 p.2.1)).length<=40:=by
 have i:=fY b c.m;refine⟨λa e=> ?_,?_⟩
 ·obtain⟨j,f,e⟩:=a3s.1 e
  exact(pW b h at_ c (by have:=a2f.1 f;omega)).1 a e
 ·have:=lM (dw d n at_ p.1 p.2.1) 5 (List.range m) (λj f=>(pW b h at_ c (by have:=a2f.1 f;omega)).2)
  rw[a5t]at this;omega
def g5 (e:aO d=true) (h:bt d n=true) (at_:Int) (f:∀p∈l,fP d p):(∀a∈ff d n at_ l,rR d a)/\(ff d n at_ l).length<=l.length*40:=by
 refine⟨λa b=> ?_,lM _ 40 l λp c=>(jv e h at_ (f p c) (a1m _)).2⟩;obtain⟨p,c,b⟩:=a3s.1 b;exact(jv e h at_ (f p c) (a1m _)).1 a b
def Ig (a:aO d=true) (h:bt d n=true) (at_:Int) (b:∀p∈l,fP d p):ge d (iV d n at_ l):=iw (pw d) (g5 a h at_ b).1
def lC (f:Nat->Int):∀(l:List Nat) {b:Int},ax b->ax (l.foldl (λa j=>di a (f j)) b)
 |[],b,h=>h
 |j::l,b,h=>lC f l (rI _ _)
def FF (a:ax al) (p:aI):ax (ig d n al p):=lC _ _ a
def oV (d:aE) (n:bA):∀(l:List aI) {a:Int},ax a->ax (l.foldl (ig d n) a)
 |[],a,h=>h
 |p::l,a,h=>oV d n l (FF h p)
def yV {α β:Type} (f:Nat->List β) (i:Nat):(List.range (i+1)).flatMap f=(List.range i).flatMap f++f i:=by
 rw[a8k,a6c];simp
def yW (f:α->Nat->α) (z:α) (i:Nat):(List.range (i+1)).foldl f z=f ((List.range i).foldl f z) i:=by
 rw[a8k,a3g];rfl
def Av (L:4194304<k) (p:eC) (x:d=au p) (y:aO d=true) (h:bt d n=true) (z:List Int) (at_:Int) {q:aI} (r:fP d q) (M:ge d s) (T:s.1.length+s.2.length<=70000) (B:ax al) (f:qC) (l:List aI) (len g:Int) (G0):aH (rZ.l2 k G0) k (z,at_,(p.1,p.2.1,p.2.2.1,p.2.2.2.1,()),(f.1,f.2.1,f.2.2.1,()),gg d n at_ s al,(q.1,q.2.1,()),l,len,g,q.2.1,(q.2.1.length:Int),0,())=G0 (z,at_,(p.1,p.2.1,p.2.2.1,p.2.2.2.1,()),(f.1,f.2.1,f.2.2.1,()),gg d n at_ ((kU d n at_ q).foldl (bM d) s) (ig d n al q),l,len,wrap .i64 (g+1),()):=by
 have U:=fY y r.m;refine bg (b:=rZ.l2 k G0) (λi=>(z,at_,(p.1,p.2.1,p.2.2.1,p.2.2.2.1,()),(f.1,f.2.1,f.2.2.1,()),gg d n at_ (((List.range i).flatMap (dw d n at_ q.1 q.2.1)).foldl (bM d) s) ((List.range i).foldl (λa j=>di a (kS d n q.2.1 j)) al),(q.1,q.2.1,()),l,len,g,q.2.1,(q.2.1.length:Int),(i:Int),())) q.2.1.length (λG i v=> ?_) (λG=> ?_) (by omega)
 ·obtain⟨N,V⟩:=jv y h at_ r (m:=i)
  have J:=iw M N;have O:=kO d ((List.range i).flatMap (dw d n at_ q.1 q.2.1)) s;have o:=lC (kS d n q.2.1) (List.range i) B;have u:q.2.1.getD i bm=q.2.1[i]:=bh v _;have C:=r.m.e _ (a0n v);have D:dv d (i:Int):=⟨by omega,by
   have:=r.m.n;have P:((i:Nat):Int)<((2^d.2.1.length:Nat):Int):=by omega
   simpa using P⟩
  rw[yV (α:=Nat),yW,a3g];obtain⟨S,Q⟩:∃S,S=((List.range i).flatMap (dw d n at_ q.1 q.2.1)).foldl (bM d) s:=⟨_,rfl⟩;obtain⟨A,R⟩:∃A,A=(List.range i).foldl (λa j=>di a (kS d n q.2.1 j)) al:=⟨_,rfl⟩;rw[<-Q]at J O⊢;rw[<-R]at o⊢;have w:=aB (i:=i);have E:dw d n at_ q.1 q.2.1 i=cond q.2.1[i].1 (bN d n at_ q.1 (i:Int) q.2.1[i]) []:=by unfold dw;rw[u]
  have F:kS d n q.2.1 i=cond q.2.1[i].1 (bE d n (i:Int) q.2.1[i]) 0:=by unfold kS;rw[u]
  rw[E,F];rcases a0p q.2.1[i].1 with hc|hc
  ·have c:=Pd L y h at_ r.t D C hc J (by omega) o
   rw[cT hc,cT hc];obtain⟨K,H⟩:∃K,K=(bN d n at_ q.1 (i:Int) q.2.1[i]).foldl (bM d) S:=⟨_,rfl⟩;rw[<-H]at c⊢;have I:d.1=p.1/\d.2.1=p.2.1/\d.2.2.1=p.2.2.1:=by rw[x];exact⟨rfl,rfl,rfl⟩
   simp only[gg,iQ]at c⊢;rw[I.1,I.2.1,I.2.2]at c⊢;simp only[rZ.l2];rw[a0b (show(i:Int)<(q.2.1.length:Int) by omega),a0b (show(0:Int)<=(i:Int) by omega)];simp only[ai,a0i,a0a v,ac];rw[w,hc,ai];rw[hc]at c;simp only[c,ac]
  ·rw[cF hc,cF hc,gG o,a2u]
   simp only[gg];simp only[rZ.l2];rw[a0b (show(i:Int)<(q.2.1.length:Int) by omega),a0b (show(0:Int)<=(i:Int) by omega)];simp only[ai,a0i,a0a v,ac];rw[w,hc,ah]
 ·simp only[gg]
  simp only[rZ.l2];rw[a0m (show¬(q.2.1.length:Int)<(q.2.1.length:Int) by omega),ah];rfl
def yX {β:Type} (f:α->List β) {l:List α} (a:i<l.length):(l.take (i+1)).flatMap f=(l.take i).flatMap f++f l[i]:=by
 rw[a2m a,a6c];simp
def Q2 (n:Nat):decide ((n:Int)>100)=decide (n>100):=by
 by_cases h:n>100
 ·rw[a0b h,a0b (by omega)]
 ·rw[a0m h,a0m (by omega)]
def LH (P:4194304<k) (p:eC) (C:aO (au p)=true) (h:bt (au p) n=true) (D:p.2.2.2.1[at_]?=some n) (Q:at_<=1000) (j:List Int) {a:Int} (E:j[at_]?=some a) (F:∀q∈l,fP (au p) q) (hn:l.length<=1000):rZ k (p,j,(at_:Int),l,())=some ((jQ (au p) n (at_:Int) a l,()),((),(),(),(),())):=by
 simp only[rZ,a0b (show 0<=(at_:Int) by omega),ai,a0i,D,ac];have M:=(g5 C h (at_:Int) F).2;have d:∀G,rZ.l0 k G (j,(at_:Int),(p.1,p.2.1,p.2.2.1,p.2.2.2.1,()),([],0,false,()),gg (au p) n (at_:Int) (iV (au p) n (at_:Int) l) (qD (au p) n l),l,(l.length:Int),(l.length:Int),())=some ((jQ (au p) n (at_:Int) a l,()),((),(),(),(),())):=by
  intro G;have m:jQ (au p) n (at_:Int) a l=cond (decide ((iV (au p) n (at_:Int) l).1.length>100)||decide ((iV (au p) n (at_:Int) l).2.length>100)) ([],0,true,()) (nc (at_:Int) a (iV (au p) n (at_:Int) l),qD (au p) n l,false,()):=rfl;obtain⟨S,y⟩:∃S,S=iV (au p) n (at_:Int) l:=⟨_,rfl⟩;obtain⟨A,z⟩:∃A,A=qD (au p) n l:=⟨_,rfl⟩;rw[<-y,<-z]at m;rw[<-y,<-z,m];have w1:wrap .i64 ((at_:Int)+1)=(at_:Int)+1:=aj (by omega) (by omega);simp only[gg];simp only[rZ.l0];rw[a0m (show¬(l.length:Int)<(l.length:Int) by omega),ah,Q2,Q2,w1];have H:(br k (decide (S.1.length>100)) (some (true,())) (some (decide (S.2.length>100),())):Option (Bool×Unit))=some (decide (S.1.length>100)||decide (S.2.length>100),()):=by
   cases decide (S.1.length>100)<;>simp
  rw[H,a0c]
  cases (decide (S.1.length>100)||decide (S.2.length>100))
  ·simp only[ah,a1q,a0b (show 0<=(at_:Int) by omega),ai,a0i,E,ac]
   obtain⟨f,R⟩:∃f,k=f+1+1+1:=⟨k-3,by omega⟩;have s:(([((at_:Int)+1,S.1,()),(a,S.2,())]:List gJ).length:Int)=2:=rfl;have T:([((at_:Int)+1,S.1,()),(a,S.2,())]:List gJ)[(0:Int).toNat]?=some ((at_:Int)+1,S.1,()):=rfl;have U:([((at_:Int)+1,S.1,()),(a,S.2,())]:List gJ)[(1:Int).toNat]?=some (a,S.2,()):=rfl;have V:wrap .i64 (0+1)=1:=aj (by omega) (by omega);have W:wrap .i64 (1+1)=2:=aj (by omega) (by omega);have t:∀(o:List gJ) (x:gJ),o.length<=1->(o.length+([x]:List gJ).length)*32<=ag:=by intro o x N;simp only[a0h,a0g,ag];omega
   have e:∀G,rZ.l4 k G (([],0,false,()),([],A,false,()),([((at_:Int)+1,S.1,()),(a,S.2,())]:List gJ),2,0,())=G (([],0,false,()),(if S.1.length>0 then [((at_:Int)+1,S.1,())]else [],A,false,()),([((at_:Int)+1,S.1,()),(a,S.2,())]:List gJ),2,1,()):=by
    intro G;simp only[rZ.l4];rw[a0b (show(0:Int)<2 by omega),ai,a0b (show(0:Int)<=0/\(0:Int)<(([((at_:Int)+1,S.1,()),(a,S.2,())]:List gJ).length:Int) by rw[s];omega),ai,T,ac,V];by_cases u:S.1.length>0
    ·rw[a0b (show((S.1.length:Nat):Int)>0 by omega),ai,a0b (t [] _ (a4j _)),ai,a0f u]
     rfl
    ·rw[a0m (show¬((S.1.length:Nat):Int)>0 by omega),ah,a0d u]
   have g:∀G o,o.length<=1->rZ.l4 k G (([],0,false,()),(o,A,false,()),([((at_:Int)+1,S.1,()),(a,S.2,())]:List gJ),2,1,())=G (([],0,false,()),(o++(if S.2.length>0 then [(a,S.2,())]else []),A,false,()),([((at_:Int)+1,S.1,()),(a,S.2,())]:List gJ),2,2,()):=by
    intro G o N;simp only[rZ.l4];rw[a0b (show(1:Int)<2 by omega),ai,a0b (show(0:Int)<=1/\(1:Int)<(([((at_:Int)+1,S.1,()),(a,S.2,())]:List gJ).length:Int) by rw[s];omega),ai,U,ac,W];by_cases u:S.2.length>0
    ·rw[a0b (show((S.2.length:Nat):Int)>0 by omega),ai,a0b (t o _ N),ai,a0f u]
    ·rw[a0m (show¬((S.2.length:Nat):Int)>0 by omega),ah,a0d u,a2b]
   have v:∀G o,rZ.l4 k G (([],0,false,()),(o,A,false,()),([((at_:Int)+1,S.1,()),(a,S.2,())]:List gJ),2,2,())=some (((o,A,false,()),()),((),(),(),(),())):=by
    intro G o;simp only[rZ.l4];rw[a0m (show¬(2:Int)<2 by omega),ah]
   have I:aH (rZ.l4 k) k (([],0,false,()),([],A,false,()),([((at_:Int)+1,S.1,()),(a,S.2,())]:List gJ),2,0,())=some (((nc (at_:Int) a S,A,false,()),()),((),(),(),(),())):=by
    conv=>lhs;arg 2;rw[R]
    rw[aD,e,aD,g _ _ (by split<;>simp),aD,v];rfl
   exact I
  ·simp only[ai,a1c]
 refine Eq.trans ?_ (Eq.trans (bg (b:=rZ.l0 k) (λi=>(j,(at_:Int),(p.1,p.2.1,p.2.2.1,p.2.2.2.1,()),([],0,false,()),gg (au p) n (at_:Int) ((ff (au p) n (at_:Int) (l.take i)).foldl (bM (au p)) ([],[])) ((l.take i).foldl (ig (au p) n) 0),l,(l.length:Int),(i:Int),())) l.length (r:=some ((jQ (au p) n (at_:Int) a l,()),((),(),(),(),()))) (λG i B=> ?_) (λG=> ?_) (f:=k) (by omega)) rfl)
 ·rfl
 ·have J:=F _ (a0n B)
  obtain⟨X,Y⟩:=g5 C h (at_:Int) (l:=l.take i) (λq Z=>F q (a3h Z));have sg:=iw (pw (au p)) X;have sl:=kO (au p) (ff (au p) n (at_:Int) (l.take i)) ([],[]);have K:=oV (au p) n (l.take i) bL;rw[a1h]at Y;simp only[a0g]at sl;have c:=λG0=>Av P p rfl C h j (at_:Int) J sg (by omega) K ([],0,false,()) l (l.length:Int) (i:Int) G0
  have e1:(ff (au p) n (at_:Int) (l.take (i+1)))=ff (au p) n (at_:Int) (l.take i)++kU (au p) n (at_:Int) l[i]:=yX _ B;have e2:(l.take (i+1)).foldl (ig (au p) n) 0=ig (au p) n ((l.take i).foldl (ig (au p) n) 0) l[i]:=gu _ _ _ B;rw[e1,e2,a3g];obtain⟨S,y⟩:∃S,S=(ff (au p) n (at_:Int) (l.take i)).foldl (bM (au p)) ([],[]):=⟨_,rfl⟩;obtain⟨A,z⟩:∃A,A=(l.take i).foldl (ig (au p) n) 0:=⟨_,rfl⟩;rw[<-y,<-z]at c⊢;have w:=aB (i:=i);rw[w]at c;obtain⟨O,L⟩:∃O,O=(kU (au p) n (at_:Int) l[i]).foldl (bM (au p)) S:=⟨_,rfl⟩;rw[<-L]at c⊢;simp only[gg]at c⊢;simp only[rZ.l0];rw[a0b (show(i:Int)<(l.length:Int) by omega),a0b (show(0:Int)<=(i:Int) by omega)];simp only[ai,a0i,a0a B,ac];exact c G
 ·rw[a1i]
  exact d G
abbrev Rc:=eN×eN×List pB×List aI×List aI×Int×Unit
def kV (d:aE) (s:List aI×List aI) (a:Int):Rc:=(d.1,d.2.1,d.2.2.1,s.1,s.2,a,())
def iO (q:4194304<k) (h:aO d=true) (j:ge d s) (D:s.1.length+s.2.length<=90000) (m:Int) (c:Bool) (r:aZ t=true) (f:dv d leaf) (u:aV d e):nz k (kV d s m,c,t,leaf,e,())=some ((),(kV d (bM d s (c,t,leaf,e)) m,(),(),(),(),())):=by
 have v:=(eJ h).2.1;obtain⟨w,x,y,z⟩:=NH h;have g:KI k ((d.1,d.2.1,d.2.2.1,()),())=some ((List.replicate (2^d.2.1.length) bm,()),((),())):=by
  have A:vi k ((d.1,d.2.1,d.2.2.1,()),())=some (((2:Int)^d.2.1.length,()),((),())):=tw k d v;simp only[KI,A,ac];rw[a0b ⟨w,x,y⟩,ai,z];rfl
 have i:leaf.toNat<2^d.2.1.length:=by have:=f.1;have:=f.2;omega
 have n:∀l,eK d l->l.length<=90000->CN k (l,(t,jO d leaf e,()),false,[],())=some ((f7 none l (t,jO d leaf e,()),()),((),(),(),(),())):=λl B C=>Id q h none [] B (by omega) ⟨r,lB u⟩
 have o:=n s.1 j.a (by omega);have p:=n s.2 j.b (by omega);unfold jO at o p;simp only[kV];simp only[nz,g,ac];unfold bM;rcases a0p e.1 with hc|hc
 ·rw[fw hc,a0b (show 0<=leaf/\leaf<((List.replicate (2^d.2.1.length) bm).length:Int) by rw[a2a];have:=f.1;omega),ai,a0a (by rw[a2a];exact i),ac]
  cases c
  ·rw[ah,p,ac,cF rfl,bZ hc]
   rfl
  ·rw[ai,o,ac,cT rfl,bZ hc]
   rfl
 ·rw[gZ hc]
  cases c
  ·rw[cF rfl,bY hc]
  ·rw[cT rfl,bY hc]
def FH (o:4194304<k) (at_:Int) (p:aZ t=true) (e:n.1≠13) (f:n.1≠14) (z:Int):uw k (n,at_,t,true,z,())=some ((gQ n at_ t,()),((),(),(),(),(),())):=by
 have g:=lA p;have i:=Au (k:=k) (by omega) g at_;have j:(n.1==13)=false:=by simpa using e
 have l:(n.1==14)=false:=by simpa using f
 simp only[uw,ym,oT o,i,ac,j,l,ah,ai,a0c,gQ];by_cases c:n.1=6
 ·have m:(n.1==6)=true:=by simp[c]
  rw[m,ai,a0f c];rfl
 ·have m:(n.1==6)=false:=by simpa using c
  rw[m,ah,a0d c];by_cases a:n.1=10
  ·have b:(n.1==10)=true:=by simp[a]
   rw[b,ai,a0c];by_cases d:eZ t at_<n.2.2.2.2.1
   ·rw[a0f ⟨a,d⟩,a0b d,ai]
   ·rw[a0d (λh=>d h.2),a0m d,ah]
  ·have b:(n.1==10)=false:=by simpa using a
   rw[b,ah,a0c,ah,a0d (λh=>a h.1)]
def yY (g:4194304<k) (at_:Int) (t:List cG) (d:n.1≠13) (z:Int):uw k (n,at_,t,false,z,())=some ((if n.1=14 then []else jL n at_ t,()),((),(),(),(),(),())):=by
 have e:(n.1==13)=false:=by simpa using d
 simp only[uw,ym,oT g,ac,e,ah,a0c,jL];by_cases c:n.1=6
 ·have f:(n.1==6)=true:=by simp[c]
  rw[f,ai,a0f c,ifNegQ];rfl
 ·have f:(n.1==6)=false:=by simpa using c
  have h:(br k (n.1==10) (some (false,())) (some (false,())):Option (Bool×Unit))=some (false,()):=by cases (n.1==10)<;>simp
  rw[f,ah,a0d c,h,a0c,ah];by_cases a:n.1=14
  ·have b:(n.1==14)=true:=by simp[a]
   rw[b,ai,a0f a]
  ·have b:(n.1==14)=false:=by simpa using a
   rw[b,ah,a0d a]
def pX (e:4194304<k) (h:bt d n=true) (a:n.1=13) (at_:Int) (t:List cG) (l:(i:Int)<=n.2.2.2.2.2.1-n.2.2.2.2.1+1:=by omega):uw k (n,at_,t,false,n.2.2.2.2.1+(i:Int),())=some ((k0 t at_ (i:Int),()),((),(),(),(),(),())):=by
 obtain⟨⟨m,o⟩,p,q,r,s⟩:=qA h a;have f:(n.1==6)=false:=by simp;omega
 have b:(n.1==10)=false:=by simp;omega
 have c:(n.1==13)=true:=by simp[a]
 have w1:wrap .i64 (n.2.2.2.2.1+(i:Int)-n.2.2.2.2.1)=(i:Int):=by rw[aj (by omega) (by omega)];omega
 have g:wrap .i64 (n.2.2.2.2.2.1-n.2.2.2.2.1)=n.2.2.2.2.2.1-n.2.2.2.2.1:=aj (by omega) (by omega);have j:wrap .i64 (n.2.2.2.2.2.1-n.2.2.2.2.1+1)=n.2.2.2.2.2.1-n.2.2.2.2.1+1:=aj (by omega) (by omega);simp only[uw,f,b,c,ah,ai,a0c,jt,ac,oT e,w1,g,j];by_cases u:(i:Int)<=n.2.2.2.2.2.1-n.2.2.2.2.1
 ·rw[a0b (by omega),ai]
 ·rw[a0m (by omega),ah]
  have:(i:Int)=n.2.2.2.2.2.1-n.2.2.2.2.1+1:=by omega
  rw[this]
def Pe (q:4194304<k) (j:aO d=true) (h:bt d n=true) (r:n.1=1\/n.1=3\/n.1=4) (at_:Int) (H:aZ t=true) (c:dv d leaf) (l:aV d e) (p:e.1=true) (L:ge d s) (hn:s.1.length+s.2.length<=80000) (u:ax al):Ad k (kV d s al,n,t,leaf,e,())=some ((),(kV d ((bN d n at_ t leaf e).foldl (bM d) s) (di al (bE d n leaf e)),(),(),(),(),())):=by
 obtain⟨w,hi,hr⟩:=bf l p;have V:=kR l p;have x:=(bD j l).1;have W:=(eJ j).2.1;have T:=m9 j h at_ H c l p;by_cases y:n.1=4
 ·obtain⟨m,c0,c1,c2⟩:=NG h y
  have I:(n.1==4)=true:=by simp[y]
  have z:bN d n at_ t leaf e=[(false,t,leaf,aT e n.2.1 (n.2.2.2.2.1,n.2.2.2.2.2.1,()))]:=by
   unfold bN;rw[ifNegQ,ifNegQ,ifNegQ,a0f y]
  have A:bE d n leaf e=0:=by unfold bE;rw[ifPosQ]
  rw[z]at T⊢;rw[A,gG u,a1t,a2u];have M:=gH k x (show 0<=n.2.1/\n.2.1<(e.2.1.length:Int)from⟨m.1,by rw[w.ints];exact m.2⟩) (n.2.2.2.2.1,n.2.2.2.2.2.1,());have f:=iO q j L (by omega) al false H c (T _ a5l).e;simp only[kV]at f⊢;simp only[Ad,I,ai,M,ac];have b:nz k ((d.1,d.2.1,d.2.2.1,s.1,s.2,al,()),false,t,leaf,((aT e n.2.1 (n.2.2.2.2.1,n.2.2.2.2.2.1,())).1,(aT e n.2.1 (n.2.2.2.2.1,n.2.2.2.2.2.1,())).2.1,(aT e n.2.1 (n.2.2.2.2.1,n.2.2.2.2.2.1,())).2.2.1,()),())=_:=f;rw[b,ac]
 have I:(n.1==4)=false:=by simpa using y
 have X:bV d n.2.2.2.1=1:=by
  rcases r with h|h'|h
  ·exact(I8 (by assumption) h).2
  ·exact(Ja h h').2.2
  ·exact absurd h y
 obtain⟨N,Y,x3,Z⟩:=dV (show bV d n.2.2.2.1≠0 by omega);have B:=jh q w (by omega) leaf N Z;rw[<-Y]at B;have a:xS k ((d.1,d.2.1,d.2.2.1,()),n.2.2.2.1,e,leaf,())=_:=B;have J:=(ce w leaf N);have C:=(iN V leaf N).1;by_cases D:n.1=1
 ·have O:(n.1==3)=false:=by simp;omega
  have P:(n.1==1)=true:=by simp[D]
  obtain⟨m,_⟩:=I8 h D;have z:bN d n at_ t leaf e=[(false,t,leaf,cond (aA (az d e leaf (dt d n.2.2.2.1))) (aT e n.2.1 (bu (az d e leaf (dt d n.2.2.2.1)))) bm)]:=by
   unfold bN;rw[a0f D]
  have A:bE d n leaf e=bP (az d e leaf (dt d n.2.2.2.1)):=by
   unfold bE;rw[ifNegQ,ifNegQ,ifNegQ]
  rw[z,A,a1t,a2u];obtain⟨v,o⟩:∃v,v=az d e leaf (dt d n.2.2.2.1):=⟨_,rfl⟩;rw[<-o]at a J C⊢;have E:v.2.2.1=aA v:=rfl;have M:=gH k x (show 0<=n.2.1/\n.2.1<(e.2.1.length:Int)from⟨m.1,by rw[w.ints];exact m.2⟩) (v.1,v.2.1,());have o0:wrap .i64 (((BitVec.ofInt 64 al|||BitVec.ofInt 64 (dm (0,0,())).2.2.2.1).toNat:Int))=al:=gG u;simp only[kV];simp only[Ad,I,O,P,ai,ah,dM,ac,a,o0,M];rw[show(!(dm (0,0,())).2.2.1)=false from rfl,ah];rcases a0p (aA v)with hc|hc
  ·have Q:=fc l p n.2.1 J.1 (C hc)
   have f:=iO q j L (by omega) (di al (bP v)) false H c Q;simp only[kV]at f;rw[E,fw hc,cT hc];have b:nz k ((d.1,d.2.1,d.2.2.1,s.1,s.2,wrap .i64 (((BitVec.ofInt 64 al|||BitVec.ofInt 64 v.2.2.2.1).toNat:Int)),()),false,t,leaf,((aT e n.2.1 (v.1,v.2.1,())).1,(aT e n.2.1 (v.1,v.2.1,())).2.1,(aT e n.2.1 (v.1,v.2.1,())).2.2.1,()),())=_:=f;rw[b,ac];rfl
  ·rw[E,gZ hc,cF hc]
   unfold bM;rw[cF rfl,bY rfl];rfl
 ·have K:n.1=3:=by omega
  have O:(n.1==3)=true:=by simp[K]
  have P:(n.1==1)=false:=by simpa using D
  obtain⟨m,R0,_⟩:=Ja h K;obtain⟨i1,i2,i3,i4⟩:=dV (show bV d n.2.2.1≠0 by omega);have F:=jh q w (by omega) leaf i1 i4;rw[<-i2]at F;have g:xS k ((d.1,d.2.1,d.2.2.1,()),n.2.2.1,e,leaf,())=_:=F;have z:bN d n at_ t leaf e=[(false,t,leaf,cond (aA (az d e leaf (dt d n.2.2.1))&& aA (az d e leaf (dt d n.2.2.2.1))) (rS d e n.2.1 (bu (az d e leaf (dt d n.2.2.1))) (bu (az d e leaf (dt d n.2.2.2.1)))) bm)]:=by
   unfold bN;rw[a0d D,ifNegQ,a0f K]
  have A:bE d n leaf e=cond (aA (az d e leaf (dt d n.2.2.1)))
   (cond (aA (az d e leaf (dt d n.2.2.2.1))) (di (di (bP (az d e leaf (dt d n.2.2.1))) (bP (az d e leaf (dt d n.2.2.2.1)))) (oU d n.2.1 (bu (az d e leaf (dt d n.2.2.1))))) (di (bP (az d e leaf (dt d n.2.2.1))) (bP (az d e leaf (dt d n.2.2.2.1)))))
   (bP (az d e leaf (dt d n.2.2.1))):=by
   unfold bE;rw[ifNegQ,a0f K]
  rw[z,A,a1t,a2u];obtain⟨v,o⟩:∃v,v=az d e leaf (dt d n.2.2.2.1):=⟨_,rfl⟩;obtain⟨i,R⟩:∃i,i=az d e leaf (dt d n.2.2.1):=⟨_,rfl⟩;rw[<-o]at a J C⊢;rw[<-R]at g⊢;have E:v.2.2.1=aA v:=rfl;have U:i.2.2.1=aA i:=rfl;simp only[kV];simp only[Ad,I,O,P,ai,ah,dM,ac,a,g];rcases a0p (aA i)with hci|hci
  ·rw[U,fw hci,cT hci]
   rcases a0p (aA v)with hc|hc
   ·have S:=FD k j l p m (bu i) (C hc)
    have G:ER k ((d.1,d.2.1,d.2.2.1,()),e,n.2.1,(i.1,i.2.1,()),(v.1,v.2.1,()),())=_:=S;have Q:=BI l p (v:=n.2.1) (place:=bu i) J.1 (C hc);have f:=iO q j L (by omega) (di (di (di al (bP i)) (bP v)) (oU d n.2.1 (bu i))) false H c Q;rw[E,fw hc,cT hc,cT (show(aA i&& aA v)=true by rw[hci,hc];rfl),G,ac];simp only[kV]at f;have b:nz k ((d.1,d.2.1,d.2.2.1,s.1,s.2,wrap .i64 (((BitVec.ofInt 64 (wrap .i64 (((BitVec.ofInt 64 (wrap .i64 (((BitVec.ofInt 64 al|||BitVec.ofInt 64 i.2.2.2.1).toNat:Int)))|||BitVec.ofInt 64 v.2.2.2.1).toNat:Int)))|||BitVec.ofInt 64 (oU d n.2.1 (bu i))).toNat:Int)),()),false,t,leaf,((rS d e n.2.1 (bu i) (bu v)).1,(rS d e n.2.1 (bu i) (bu v)).2.1,(rS d e n.2.1 (bu i) (bu v)).2.2.1,()),())=_:=f;rw[b,ac,<-c7,<-c7];rfl
   ·rw[E,gZ hc,cF hc,cF (show(aA i&& aA v)=false by rw[hci,hc];rfl),<-c7]
    rfl
  ·rw[U,gZ hci,cF hci,cF (show(aA i&& aA v)=false by rw[hci];rfl)]
   rfl
def NN {d:aE} (f:e.1=true) (v:Int) (m:∀x∈e.2.1,bo x=true) (a b:bq):cE (aT e v a) (aT e v b)=aT e v (eX a b):=by
 have c:∀x:bq,eX x x=x:=λx=>by unfold eX;simp
 have h:(aT e v a).1=true:=f;have j:(aT e v b).1=true:=f;unfold cE;rw[cT h,cT j];have g:∀(l:List bq),fM l l=l:=by
  intro l;unfold fM
  induction l with
  |nil=>rfl
  |cons x l ih=>rw[a3p,ih,c]
 have k:∀(l:List bq) (i:Nat),fM (l.set i a) (l.set i b)=l.set i (eX a b):=by
  intro l
  induction l with
  |nil=>intro i;rfl
  |cons x l ih=>
   intro i
   cases i with
   |zero=>simp only[List.set_cons_zero,fM,a3p];congr 1;exact g l
   |succ i=>
    have:=ih i;simp only[fM]at this;simp only[a7d,fM,a3p,this,c]
 simp only[aT];rw[k,g,f]
def NO (b:aV d e) (a:e.1=true):uZ n e=cond ((ee n e).2.1||(eL n e).2.1) (aT e n.2.1 (cond (ee n e).2.1 (cond (eL n e).2.1 (eX (ee n e).1 (eL n e).1) (ee n e).1) (eL n e).1)) bm:=by
 obtain⟨g,c,h⟩:=bf b a;unfold uZ;rcases a0p (ee n e).2.1 with h1|h1<;>rcases a0p (eL n e).2.1 with h2|h2
 ·rw[h1,h2]
  exact NN (d:=d) a _ c _ _
 ·rw[h1,h2]
  have f:(aT e n.2.1 (ee n e).1).1=true:=a;simp only[a1c,a1q,a8f];unfold cE;rw[cT f];rfl
 ·rw[h1,h2]
  rfl
 ·rw[h1,h2]
  rfl
def LI (F:4194304<k) (H:aO d=true) (h:bt d n=true) (p:n.1=13) (at_:Int) (t:List cG) (w:dv d leaf) (y:aV d e) (A:e.1=true) (X:ge d s) (hn:s.1.length+s.2.length<=80000) (I:ax al):Ae k (kV d s al,n,at_,t,leaf,e,())=some ((),(kV d ((bN d n at_ t leaf e).foldl (bM d) s) (di al (bE d n leaf e)),(),(),(),(),(),())):=by
 obtain⟨⟨Y,v1⟩,b0,b1,b2,b3⟩:=qA h p;obtain⟨Z,hi,hr⟩:=bf y A;have J:=(bD H y).1;have em:bN d n at_ t leaf e=ix n at_ t leaf e:=by
  unfold bN;rw[ifNegQ,ifNegQ,ifNegQ,ifNegQ,a0f p]
 have la:bE d n leaf e=0:=by unfold bE;rw[ifPosQ]
 have g:=qB h p at_ (t:=t) w y A;rw[em,la,gG I];have T:n.2.1.toNat<e.2.1.length:=by rw[Z.ints];omega
 have u:e.2.1[n.2.1.toNat]?=some (e.2.1.getD n.2.1.toNat dA):=by rw[bh T];exact a0a T
 obtain⟨c,l⟩:∃o,o=e.2.1.getD n.2.1.toNat dA:=⟨_,rfl⟩;have B:0<=n.2.1/\n.2.1<(e.2.1.length:Int):=by omega
 have v:∀a,CO k ((e.1,e.2.1,e.2.2.1,()),n.2.1,a,())=some ((aT e n.2.1 a,()),((),(),(),())):=λa=>gH k J B a
 obtain⟨m,hm⟩:∃m:Nat,(m:Int)=n.2.2.2.2.2.1-n.2.2.2.2.1+1:=⟨(n.2.2.2.2.2.1-n.2.2.2.2.1+1).toNat,by omega⟩;have K:(n.2.2.2.2.2.1-n.2.2.2.2.1+1).toNat=m:=by omega
 unfold ix at g⊢;rw[K]at g⊢;rw[a3g,a1t,a2u];have U:∀i,i<=m->ge d (((List.range i).map (dl n at_ t leaf e)).foldl (bM d) s)/\(((List.range i).map (dl n at_ t leaf e)).foldl (bM d) s).1.length+(((List.range i).map (dl n at_ t leaf e)).foldl (bM d) s).2.length<=80000+i:=by
  intro i L;refine⟨iw X λa ha=> ?_,?_⟩
  ·obtain⟨j,hj,rfl⟩:=a4q.1 ha
   exact g _ (a0k.2 (Or.inl (a4q.2 ⟨j,a2f.2 (by have:=a2f.1 hj;omega),rfl⟩)))
  ·have:=kO d ((List.range i).map (dl n at_ t leaf e)) s
   simp only[a4e,a5t]at this;omega
 unfold kV;simp only[Ae,a0b Y,ai,u,ac];rw[<-l]at u⊢;have x:n.2.2.2.2.1=n.2.2.2.2.1+((0:Nat):Int):=by omega
 refine Eq.trans (?_:_=aH (Ae.l0 k) k ((λi:Nat=>(kV d (((List.range i).map (dl n at_ t leaf e)).foldl (bM d) s) al,at_,t,leaf,n,e,c,n.2.2.2.2.1+(i:Int),())) 0)) (bg (b:=Ae.l0 k) (λi:Nat=>(kV d (((List.range i).map (dl n at_ t leaf e)).foldl (bM d) s) al,at_,t,leaf,n,e,c,n.2.2.2.2.1+(i:Int),())) m (λG i L=> ?_) (λG=> ?_) (by omega))
 ·simp only[kV]
  rw[<-x];rfl
 ·obtain⟨M,C⟩:=U i (by omega)
  have r:=pX F h p at_ t (i:=i);have q:uw k ((n.1,n.2.1,n.2.2.1,n.2.2.2.1,n.2.2.2.2.1,n.2.2.2.2.2.1,()),at_,t,false,n.2.2.2.2.1+(i:Int),())=_:=r;rw[yU];have D:dl n at_ t leaf e i=(false,k0 t at_ (i:Int),leaf,cond (eu c (n.2.2.2.2.1+(i:Int))) (aT e n.2.1 (n.2.2.2.2.1+(i:Int),n.2.2.2.2.1+(i:Int),())) bm):=by unfold dl;rw[<-l]
  rw[D];have V:wrap .i64 (n.2.2.2.2.1+(i:Int)+1)=n.2.2.2.2.1+((i+1:Nat):Int):=by rw[aj (by omega) (by omega)];omega
  have hiv:KL k ((c.1,c.2.1,()),n.2.2.2.2.1+(i:Int),())=some ((eu c (n.2.2.2.2.1+(i:Int)),()),((),(),())):=mS k c _;have eg:aV d (aT e n.2.1 (n.2.2.2.2.1+(i:Int),n.2.2.2.2.1+(i:Int),())):=fc y A _ ⟨by unfold ax;simp only;omega,by unfold ax;simp only;omega⟩ (a0b (a5g _));have f:=iO F H M (by omega) al false (jZ t at_ (i:Int)) w eg;obtain⟨S,N⟩:∃S,S=((List.range i).map (dl n at_ t leaf e)).foldl (bM d) s:=⟨_,rfl⟩;rw[<-N]at f⊢;rcases a0p (eu c (n.2.2.2.2.1+(i:Int)))with hc|hc
  ·rw[cT hc]
   obtain⟨W,O⟩:∃W,W=bM d S (false,k0 t at_ (i:Int),leaf,aT e n.2.1 (n.2.2.2.2.1+(i:Int),n.2.2.2.2.1+(i:Int),())):=⟨_,rfl⟩;rw[<-O]at f⊢;simp only[kV]at f⊢;simp only[Ae.l0];rw[a0b (show n.2.2.2.2.1+(i:Int)<=n.2.2.2.2.2.1 by omega),ai,V];simp only[hiv,ac,q,v];rw[hc,ai];have P:nz k ((d.1,d.2.1,d.2.2.1,S.1,S.2,al,()),false,k0 t at_ (i:Int),leaf,((aT e n.2.1 (n.2.2.2.2.1+(i:Int),n.2.2.2.2.1+(i:Int),())).1,(aT e n.2.1 (n.2.2.2.2.1+(i:Int),n.2.2.2.2.1+(i:Int),())).2.1,(aT e n.2.1 (n.2.2.2.2.1+(i:Int),n.2.2.2.2.1+(i:Int),())).2.2.1,()),())=_:=f;rw[P,ac]
  ·rw[cF hc]
   unfold bM;rw[cF rfl,bY rfl];simp only[kV];simp only[Ae.l0];rw[a0b (show n.2.2.2.2.1+(i:Int)<=n.2.2.2.2.2.1 by omega),ai,V];simp only[hiv,ac];rw[hc,ah]
 ·obtain⟨E,C⟩:=U m (a1m _)
  have Q:=tG h p y A;have R:=NO (n:=n) y A;have w1:wrap .i64 (n.2.2.2.2.1-1)=n.2.2.2.2.1-1:=aj (by omega) (by omega);have w2:wrap .i64 (n.2.2.2.2.2.1+1)=n.2.2.2.2.2.1+1:=aj (by omega) (by omega);have r:=pX F h p at_ t (i:=m);have q:uw k ((n.1,n.2.1,n.2.2.1,n.2.2.2.1,n.2.2.2.2.1,n.2.2.2.2.2.1,()),at_,t,false,n.2.2.2.2.2.1+1,())=some ((k0 t at_ (n.2.2.2.2.2.1-n.2.2.2.2.1+1),()),((),(),(),(),(),())):=by
   have e1:n.2.2.2.2.1+(m:Int)=n.2.2.2.2.2.1+1:=by omega
   rw[e1,hm]at r;exact r
  have hB:sX k ((c.1,c.2.1,()),((-9223372036854775808:Int),n.2.2.2.2.1-1,()),())=some (ee n e,((),(),())):=by unfold ee;rw[<-l];exact lp k c _
  have hA:sX k ((c.1,c.2.1,()),(n.2.2.2.2.2.1+1,(9223372036854775807:Int),()),())=some (eL n e,((),(),())):=by unfold eL;rw[<-l];exact lp k c _
  obtain⟨S,N⟩:∃S,S=((List.range m).map (dl n at_ t leaf e)).foldl (bM d) s:=⟨_,rfl⟩;rw[<-N]at E C⊢;have f:=iO F H E (by omega) al false (jZ t at_ (n.2.2.2.2.2.1-n.2.2.2.2.1+1)) w Q;rw[R]at f⊢;simp only[kV]at f⊢;simp only[Ae.l0];rw[a0m (show¬n.2.2.2.2.1+(m:Int)<=n.2.2.2.2.2.1 by omega),ah,w1,w2];simp only[q,ac,hB,hA,oI,v];have lv:∀a,(aT e n.2.1 a).1=true:=λa=>A
  rcases a0p (ee n e).2.1 with h1|h1<;>rcases a0p (eL n e).2.1 with h2|h2
  ·rw[h1,h2]at f⊢
   simp only[Bool.or_self,a1c,ai,ah,a0o,a0c]at f⊢;refine(a1v (λz=>bd k z _) f).trans ?_
   rw[ac]
  ·rw[h1,h2]at f⊢
   simp only[a8f,a1c,a1q,ai,ah,a0o,a0c]at f⊢;refine(a1v (λz=>bd k z _) f).trans ?_
   rw[ac]
  ·rw[h1,h2]at f⊢
   simp only[a5s,a1c,a1q,ai,ah,a0u,a0c]at f⊢;refine(a1v (λz=>bd k z _) f).trans ?_
   rw[ac]
  ·rw[h1,h2]at f⊢
   simp only[a5s,a1c,a1q,ai,ah,a0u,a0c]at f⊢;unfold bM;rw[cF rfl,bY rfl]
def NP (o:4194304<k) (p:aO d=true) (h:bt d n=true) (U:n.1=2\/n.1=5\/n.1=6\/n.1=9\/n.1=10\/n.1=11\/n.1=12) (at_:Int) (x:aZ t=true) (f:dv d leaf) (H:aV d e) (V:e.1=true) (I:ge d s) (hn:s.1.length+s.2.length<=80000) (y:Int):Gc k (kV d s y,n,at_,t,leaf,e,())=some ((),(kV d ((bN d n at_ t leaf e).foldl (bM d) s) (di y (bE d n leaf e)),(),(),(),(),(),())):=by
 have hx:bV d n.2.2.2.1=2:=by
  rcases U with G|h'
  ·exact(I9 h G).2
  ·exact BK h
 obtain⟨E,x2,x3,x4⟩:=dV (show bV d n.2.2.2.1≠0 by omega);have J:(dt d n.2.2.2.1).kind=2:=by rw[<-x3];exact hx
 obtain⟨hE,hi,hr⟩:=bf H V;have hR:=kR H V;have R1:=(eJ p).2.1;have hg:=λi=>Ln o p leaf E J x4 i H V
 rw[<-x2]at hg;have K:∀i,ET k ((d.1,d.2.1,d.2.2.1,()),n.2.2.2.1,i,e,leaf,())=_:=hg;have L:=jh o hE (by omega) leaf E x4;rw[<-x2]at L;have A:xS k ((d.1,d.2.1,d.2.2.1,()),n.2.2.2.1,e,leaf,())=_:=L;have F:=dB leaf E true H;have W:=dB leaf E false H;obtain⟨m,j⟩:∃g,g=c9 d leaf (dt d n.2.2.2.1) true e:=⟨_,rfl⟩;obtain⟨Q,q⟩:∃g,g=c9 d leaf (dt d n.2.2.2.1) false e:=⟨_,rfl⟩;have r:=K true;have u:=K false;have B:=iN hR leaf E;have M:=(ce hE leaf E).2;obtain⟨v,b⟩:∃v,v=az d e leaf (dt d n.2.2.2.1):=⟨_,rfl⟩;rw[<-j,<-b]at r;rw[<-q,<-b]at u;rw[<-b]at A B M;rw[<-j]at F;rw[<-q]at W;by_cases G:n.1=2
 ·have R:(n.1==2)=true:=by simp[G]
  obtain⟨X,_⟩:=I9 h G;obtain⟨l1,l2⟩:=tD p X f;have N:bN d n at_ t leaf e=[(false,t,kP leaf n.2.1,m),(false,t,m8 leaf n.2.1,Q)]:=by
   unfold bN;rw[ifNegQ,a0f G,<-j,<-q]
  have O:bE d n leaf e=bP v:=by
   unfold bE;rw[ifNegQ,ifNegQ,ifNegQ,<-b]
  have wu:wrap .u64 n.2.1=n.2.1:=gW X.1 (by have:=(eJ p).2.1;omega);rw[N,O,a1t,a1t,a2u];have c:=iO o p I (by omega) (di y (bP v)) false x l1 F;have Y:=pt I (a:=(false,t,kP leaf n.2.1,m)) ⟨x,l1,F⟩;have Z:=yP d s (false,t,kP leaf n.2.1,m);have w:=iO o p Y (by omega) (di y (bP v)) false x l2 W;obtain⟨T,l⟩:∃S,S=bM d s (false,t,kP leaf n.2.1,m):=⟨_,rfl⟩;rw[<-l]at c w⊢;obtain⟨S2,C⟩:∃S,S=bM d T (false,t,m8 leaf n.2.1,Q):=⟨_,rfl⟩;rw[<-C]at w⊢;simp only[kV]at c w⊢;simp only[Gc,r,u,ac,R,ai,wu,a0b X.1];refine(a1v (λz=>bd k z _) c).trans ?_
  rw[ac];refine(a1v (λz=>bd k z _) w).trans ?_
  rw[ac]
 have R:(n.1==2)=false:=by simpa using G
 by_cases P:n.1=11\/n.1=12
 ·have N:bN d n at_ t leaf e=[(false,t,leaf,m)]:=by
   unfold bN;rw[ifNegQ,ifNegQ,ifNegQ,ifNegQ,ifNegQ,ifNegQ,ifPosQ,<-j]
  have O:bE d n leaf e=if n.1=11 then cond (aA v&& eu (bu v) 0) (di (bP v) 8) (bP v)else bP v:=by
   unfold bE;rw[ifNegQ,ifNegQ,<-b]
  rw[N,O,a1t,a2u];have D:(br k (n.1==11) (some (true,())) (some (n.1==12,())):Option (Bool×Unit))=some (true,()):=by
   rcases P with h|h<;>rw[h]<;>simp
  have hz:aA v=true->(v.1==0)=eu (bu v) 0:=by
   intro hlv;obtain⟨t1,t2⟩:=B.2 J hlv;have t3:v.1<=v.2.1:=a0w (B.1 hlv);unfold eu bu at*;simp only at t1 t2;rw[a3w];simp only[a3b,a0v];omega
  have hj:(br k (n.1==11) (br k v.2.2.1 (some (v.1==0,())) (some (false,()))) (some (false,())):Option (Bool×Unit))=some ((n.1==11)&& (aA v&& eu (bu v) 0),()):=by
   have ea:v.2.2.1=aA v:=rfl;rw[ea];rcases a0p (aA v)with hlv|hlv
   ·rw[hz hlv,hlv]
    cases (n.1==11)<;>simp
   ·rw[hlv]
    cases (n.1==11)<;>simp
  have c:=λR0=>iO o p I (by omega) R0 false x f F
  obtain⟨T,l⟩:∃S,S=bM d s (false,t,leaf,m):=⟨_,rfl⟩;rw[<-l]at c⊢;simp only[kV]at c⊢;simp only[Gc,r,u,ac,R,ah,D,a0c,ai,A,hj];rcases a0p ((n.1==11)&& (aA v&& eu (bu v) 0))with hc|hc
  ·rw[hc,ai]
   simp only[a0e,a3b]at hc;rw[a0f hc.1,cT (by rw[hc.2.1,hc.2.2];rfl),<-c7];refine(a1v (λz=>bd k z _) (c (di (di y (bP v)) 8))).trans ?_
   rw[ac]
  ·rw[hc,ah]
   have:(if n.1=11 then cond (aA v&& eu (bu v) 0) (di (bP v) 8) (bP v)else bP v)=bP v:=by
    by_cases h1:n.1=11
    ·rw[a0f h1]
     have hb:(n.1==11)=true:=by simp[h1]
     rw[hb,a1n]at hc;rw[cF hc]
    ·rw[a0d h1]
   rw[this];refine(a1v (λz=>bd k z _) (c (di y (bP v)))).trans ?_
   rw[ac]
 ·have N:bN d n at_ t leaf e=[(true,gQ n at_ t,leaf,m),(false,jL n at_ t,leaf,Q)]:=by
   unfold bN;rw[ifNegQ,ifNegQ,ifNegQ,ifNegQ,ifNegQ,ifNegQ,a0d P,ifNegQ,<-j,<-q]
  have O:bE d n leaf e=bP v:=by
   unfold bE;rw[ifNegQ,ifNegQ,ifNegQ,<-b]
  rw[N,O,a1t,a1t,a2u];have D:(br k (n.1==11) (some (true,())) (some (n.1==12,())):Option (Bool×Unit))=some (false,()):=by
   have e1:(n.1==11)=false:=by simp;omega
   have e2:(n.1==12)=false:=by simp;omega
   rw[e1,e2,ah]
  have ty:=FH o at_ x (by omega) (by omega) 0 (n:=n);have tn:=yY o at_ t (by omega) 0 (n:=n);rw[ifNegQ]at tn;have c:=iO o p I (by omega) (di y (bP v)) true (pu n at_ x) f F;have Y:=pt I (a:=(true,gQ n at_ t,leaf,m)) ⟨pu n at_ x,f,F⟩;have Z:=yP d s (true,gQ n at_ t,leaf,m);have w:=iO o p Y (by omega) (di y (bP v)) false (rU n at_ x) f W;obtain⟨T,l⟩:∃S,S=bM d s (true,gQ n at_ t,leaf,m):=⟨_,rfl⟩;rw[<-l]at c w⊢;obtain⟨S2,C⟩:∃S,S=bM d T (false,jL n at_ t,leaf,Q):=⟨_,rfl⟩;rw[<-C]at w⊢;simp only[kV]at c w⊢;simp only[Gc,r,u,ac,R,ah,D,a0c,ty,tn];refine(a1v (λz=>bd k z _) c).trans ?_
  rw[ac];refine(a1v (λz=>bd k z _) w).trans ?_
  rw[ac]
def NQ (y:4194304<k) (D:aO d=true) (h:bt d n=true) (at_:Int) (H:aZ t=true) (p:dv d leaf) (E:aV d e) (I:e.1=true) (F:ge d s) (J:s.1.length+s.2.length<=80000) (r:ax al):sY k (kV d s al,n,at_,t,leaf,e,())=some ((),(kV d ((bN d n at_ t leaf e).foldl (bM d) s) (di al (bE d n leaf e)),(),(),(),(),(),())):=by
 have N:=tF h;have g:n.1=1\/n.1=3\/n.1=4->_:=λw=>Pe y D h w at_ H p E I F J r
 have j:n.1=2\/n.1=5\/n.1=6\/n.1=9\/n.1=10\/n.1=11\/n.1=12->_:=λw=>NP y D h w at_ H p E I F J al
 have l:n.1=13->_:=λw=>LI y D h w at_ t p E I F J r
 have m:n.1=7\/n.1=8\/n.1=14->∀z,z=(if n.1=14 then []else jL n at_ t)->nz k (kV d s al,false,z,leaf,e,())=some ((),(kV d ((bN d n at_ t leaf e).foldl (bM d) s) (di al (bE d n leaf e)),(),(),(),(),())):=by
  intro w z u;have B:n.1≠14->jL n at_ t=t:=λ_=>by unfold jL;rw[ifNegQ]
  have O:bN d n at_ t leaf e=[(false,z,leaf,e)]:=by
   unfold bN;rw[ifNegQ,ifNegQ,ifNegQ,ifNegQ,ifNegQ];by_cases b:n.1=14
   ·rw[a0f b,u,a0f b]
   ·rw[a0d b,ifNegQ,ifPosQ,u,a0d b,B b]
  have P:bE d n leaf e=0:=by unfold bE;rw[ifPosQ]
  have K:aZ z=true:=by
   rw[u];by_cases b:n.1=14
   ·rw[a0f b];rfl
   ·rw[a0d b];exact rU n at_ H
  rw[O,P,gG r,a1t,a2u];exact iO y D F (by omega) al false K p E
 have L:=λ(o:n.1≠13)=>yY y at_ t o 0 (n:=n)
 obtain⟨S,Q⟩:∃S,S=(bN d n at_ t leaf e).foldl (bM d) s:=⟨_,rfl⟩;obtain⟨A,R⟩:∃A,A=di al (bE d n leaf e):=⟨_,rfl⟩;rw[<-Q,<-R]at g j l m⊢;have a:∀c:Int,n.1≠c->(n.1==c)=false:=λc M=>by simpa using M
 have i:∀c:Int,n.1=c->(n.1==c)=true:=λc M=>by simp[M]
 by_cases q:n.1=1
 ·have f:=g (by omega)
  simp only[kV]at f⊢;simp only[sY,i 1 q,ai,f,ac]
 by_cases v:n.1=3
 ·have f:=g (by omega)
  simp only[kV]at f⊢;simp only[sY,a 1 q,i 3 v,ai,ah,f,ac]
 by_cases x:n.1=4
 ·have f:=g (by omega)
  simp only[kV]at f⊢;simp only[sY,a 1 q,a 3 v,i 4 x,ai,ah,f,ac]
 by_cases C:n.1=7
 ·have f:=m (by omega) _ rfl
  simp only[kV]at f⊢;simp only[sY,a 1 q,a 3 v,a 4 x,i 7 C,ai,ah,L (by omega),f,ac]
 by_cases G:n.1=8
 ·have f:=m (by omega) _ rfl
  simp only[kV]at f⊢;simp only[sY,a 1 q,a 3 v,a 4 x,a 7 C,i 8 G,ai,ah,L (by omega),f,ac]
 by_cases b:n.1=14
 ·have f:=m (by omega) _ rfl
  simp only[kV]at f⊢;simp only[sY,a 1 q,a 3 v,a 4 x,a 7 C,a 8 G,i 14 b,ai,ah,L (by omega),f,ac]
 by_cases o:n.1=13
 ·have f:=l o
  simp only[kV]at f⊢;simp only[sY,a 1 q,a 3 v,a 4 x,a 7 C,a 8 G,a 14 b,i 13 o,ai,ah,f,ac]
 ·have f:=j (by omega)
  simp only[kV]at f⊢;simp only[sY,a 1 q,a 3 v,a 4 x,a 7 C,a 8 G,a 14 b,a 13 o,ah,f,ac]
def yZ (L:4194304<k) (p:eC) (z:aO (au p)=true) (h:bt (au p) n=true) (B:p.2.2.2.1[at_]?=some n) (f:Int) (M:∀q∈l,fP (au p) q) (V:l.length<=1000) {c:Nat} (u:c<l.length) (N:ge (au p) s) (O:s.1.length+s.2.length<=70000) (C:ax al) (d:qC) (G0):aH (CR.l2 k G0) k (f,(at_:Int),l,(p.1,p.2.1,p.2.2.1,p.2.2.2.1,()),(d.1,d.2.1,d.2.2.1,()),kV (au p) s al,(c:Int),0,())=G0 (f,(at_:Int),l,(p.1,p.2.1,p.2.2.1,p.2.2.2.1,()),(d.1,d.2.1,d.2.2.1,()),kV (au p) ((kU (au p) n (at_:Int) l[c]).foldl (bM (au p)) s) (ig (au p) n al l[c]),((c+1:Nat):Int),()):=by
 have v:=M _ (a0n u);have W:=fY z v.m;have g:l[c]?=some l[c]:=a0a u;refine bg (b:=CR.l2 k G0) (λi=>(f,(at_:Int),l,(p.1,p.2.1,p.2.2.1,p.2.2.2.1,()),(d.1,d.2.1,d.2.2.1,()),kV (au p) (((List.range i).flatMap (dw (au p) n (at_:Int) l[c].1 l[c].2.1)).foldl (bM (au p)) s) ((List.range i).foldl (λa j=>di a (kS (au p) n l[c].2.1 j)) al),(c:Int),(i:Int),())) l[c].2.1.length (λG i y=> ?_) (λG=> ?_) (by omega)
 ·obtain⟨P,X⟩:=jv z h (at_:Int) v (m:=i)
  have J:=iw N P;have Q:=kO (au p) ((List.range i).flatMap (dw (au p) n (at_:Int) l[c].1 l[c].2.1)) s;have o:=lC (kS (au p) n l[c].2.1) (List.range i) C;have x:l[c].2.1.getD i bm=l[c].2.1[i]:=bh y _;have D:=v.m.e _ (a0n y);have E:dv (au p) (i:Int):=⟨by omega,by
   have:=v.m.n;have R:((i:Nat):Int)<((2^(au p).2.1.length:Nat):Int):=by omega
   simpa using R⟩
  rw[yV (α:=Nat),yW,a3g];obtain⟨S,T⟩:∃S,S=((List.range i).flatMap (dw (au p) n (at_:Int) l[c].1 l[c].2.1)).foldl (bM (au p)) s:=⟨_,rfl⟩;obtain⟨A,U⟩:∃A,A=(List.range i).foldl (λa j=>di a (kS (au p) n l[c].2.1 j)) al:=⟨_,rfl⟩;rw[<-T]at J Q⊢;rw[<-U]at o⊢;have w:=aB (i:=i);have F:dw (au p) n (at_:Int) l[c].1 l[c].2.1 i=cond l[c].2.1[i].1 (bN (au p) n (at_:Int) l[c].1 (i:Int) l[c].2.1[i]) []:=by unfold dw;rw[x]
  have H:kS (au p) n l[c].2.1 i=cond l[c].2.1[i].1 (bE (au p) n (i:Int) l[c].2.1[i]) 0:=by unfold kS;rw[x]
  rw[F,H];rcases a0p l[c].2.1[i].1 with hc|hc
  ·have r:=NQ L z h (at_:Int) v.t E D hc J (by omega) o
   rw[cT hc,cT hc];obtain⟨K,I⟩:∃K,K=(bN (au p) n (at_:Int) l[c].1 (i:Int) l[c].2.1[i]).foldl (bM (au p)) S:=⟨_,rfl⟩;rw[<-I]at r⊢;simp only[kV]at r⊢;simp only[CR.l2];rw[a0b (show 0<=(c:Int) by omega)];simp only[ai,a0i,g,ac];rw[a0b (show(i:Int)<(l[c].2.1.length:Int) by omega),a0b (show(0:Int)<=(i:Int) by omega),a0b (show(0:Int)<=(at_:Int) by omega)];simp only[ai,a0a y,ac,B];rw[w,hc,ai,r,ac]
  ·rw[cF hc,cF hc,gG o,a2u]
   simp only[kV];simp only[CR.l2];rw[a0b (show 0<=(c:Int) by omega)];simp only[ai,a0i,g,ac];rw[a0b (show(i:Int)<(l[c].2.1.length:Int) by omega),a0b (show(0:Int)<=(i:Int) by omega)];simp only[ai,a0a y,ac];rw[w,hc,ah]
 ·simp only[kV]
  simp only[CR.l2];rw[a0b (show 0<=(c:Int) by omega)];simp only[ai,a0i,g,ac];rw[a0m (show¬(l[c].2.1.length:Int)<(l[c].2.1.length:Int) by omega),ah,aB (i:=c)];rfl
def FI (E:4194304<k) (p:eC) (z:aO (au p)=true) (h:bt (au p) n=true) (s:p.2.2.2.1[at_]?=some n) (F:at_<=1000) (a:Int) (t:∀q∈l,fP (au p) q) (H:l.length<=1000):CR k (p,a,(at_:Int),l,())=some ((jQ (au p) n (at_:Int) a l,()),((),(),(),(),())):=by
 simp only[CR];have d:∀G,CR.l0 k G (a,(at_:Int),l,(p.1,p.2.1,p.2.2.1,p.2.2.2.1,()),([],0,false,()),kV (au p) (iV (au p) n (at_:Int) l) (qD (au p) n l),(l.length:Int),())=some ((jQ (au p) n (at_:Int) a l,()),((),(),(),(),())):=by
  intro G;have e:jQ (au p) n (at_:Int) a l=cond (decide ((iV (au p) n (at_:Int) l).1.length>100)||decide ((iV (au p) n (at_:Int) l).2.length>100)) ([],0,true,()) (nc (at_:Int) a (iV (au p) n (at_:Int) l),qD (au p) n l,false,()):=rfl;obtain⟨S,j⟩:∃S,S=iV (au p) n (at_:Int) l:=⟨_,rfl⟩;obtain⟨A,m⟩:∃A,A=qD (au p) n l:=⟨_,rfl⟩;rw[<-j,<-m]at e;rw[<-j,<-m,e];have w1:wrap .i64 ((at_:Int)+1)=(at_:Int)+1:=aj (by omega) (by omega);simp only[kV];simp only[CR.l0];rw[a0m (show¬(l.length:Int)<(l.length:Int) by omega),ah,Q2,Q2,w1];have u:(br k (decide (S.1.length>100)) (some (true,())) (some (decide (S.2.length>100),())):Option (Bool×Unit))=some (decide (S.1.length>100)||decide (S.2.length>100),()):=by
   cases decide (S.1.length>100)<;>simp
  rw[u,a0c]
  cases (decide (S.1.length>100)||decide (S.2.length>100))
  ·rw[ah,a1q]
   have B:∀x:gJ,([x]:List gJ).length*32<=ag:=by intro x;simp only[a0h,a0g,ag];omega
   have I:∀x y:gJ,(([x]:List gJ).length+([y]:List gJ).length)*32<=ag:=by intro x y;simp only[a0h,a0g,ag];omega
   unfold nc;by_cases C:S.1.length>0
   ·rw[a0b (show((S.1.length:Nat):Int)>0 by omega),ai,a0b (B _),ai,a0f C]
    by_cases g:S.2.length>0
    ·rw[a0b (show((S.2.length:Nat):Int)>0 by omega),ai,a0b (I _ _),ai,a0f g]
    ·rw[a0m (show¬((S.2.length:Nat):Int)>0 by omega),ah,a0d g,a2b]
   ·rw[a0m (show¬((S.1.length:Nat):Int)>0 by omega),ah,a0d C]
    by_cases g:S.2.length>0
    ·rw[a0b (show((S.2.length:Nat):Int)>0 by omega),ai,a0b (B _),ai,a0f g,a1s]
    ·rw[a0m (show¬((S.2.length:Nat):Int)>0 by omega),ah,a0d g,a2b]
  ·rw[ai,a1c]
 refine Eq.trans ?_ (Eq.trans (bg (b:=CR.l0 k) (λi=>(a,(at_:Int),l,(p.1,p.2.1,p.2.2.1,p.2.2.2.1,()),([],0,false,()),kV (au p) ((ff (au p) n (at_:Int) (l.take i)).foldl (bM (au p)) ([],[])) ((l.take i).foldl (ig (au p) n) 0),(i:Int),())) l.length (r:=some ((jQ (au p) n (at_:Int) a l,()),((),(),(),(),()))) (λG i o=> ?_) (λG=> ?_) (f:=k) (by omega)) rfl)
 ·rfl
 ·have J:=t _ (a0n o)
  obtain⟨K,L⟩:=g5 z h (at_:Int) (l:=l.take i) (λq M=>t q (a3h M));have N:=iw (pw (au p)) K;have O:=kO (au p) (ff (au p) n (at_:Int) (l.take i)) ([],[]);have v:=oV (au p) n (l.take i) bL;rw[a1h]at L;simp only[a0g]at O;have c:=λP=>yZ E p z h s a t H o N (by omega) v ([],0,false,()) P
  have Q:(ff (au p) n (at_:Int) (l.take (i+1)))=ff (au p) n (at_:Int) (l.take i)++kU (au p) n (at_:Int) l[i]:=yX _ o;have R:(l.take (i+1)).foldl (ig (au p) n) 0=ig (au p) n ((l.take i).foldl (ig (au p) n) 0) l[i]:=gu _ _ _ o;rw[Q,R,a3g];obtain⟨S,j⟩:∃S,S=(ff (au p) n (at_:Int) (l.take i)).foldl (bM (au p)) ([],[]):=⟨_,rfl⟩;obtain⟨A,m⟩:∃A,A=(l.take i).foldl (ig (au p) n) 0:=⟨_,rfl⟩;rw[<-j,<-m]at c⊢;obtain⟨D,w⟩:∃D,D=(kU (au p) n (at_:Int) l[i]).foldl (bM (au p)) S:=⟨_,rfl⟩;rw[<-w]at c⊢;simp only[kV]at c⊢;simp only[CR.l0];rw[a0b (show(i:Int)<(l.length:Int) by omega),ai];exact c G
 ·rw[a1i]
  exact d G
def oW (op:List Int):Int:=op.getLastD 0
def mg (op:List Do):Do:=op.getLastD (0,0,())
def lN (l:List bA):List Int->List Int->Nat->List Int->List Int
 |out,_,_,[]=>out
 |out,op,i,kd::r=>
  if d9 kd=true then lN l (out++[((i+1:Nat):Int)]) (op++[(i:Int)]) (i+1) r
  else if kd=7 then lN l ((out++[((i+1:Nat):Int)]).set (oW op).toNat ((i+1:Nat):Int)) (op.dropLast++[(i:Int)]) (i+1) r
  else if kd=8 then
   (if eY (db l (oW op))=true then lN l ((((out++[((i+1:Nat):Int)]).set (oW op).toNat (i:Int)).set (oW op).toNat ((i+1:Nat):Int)).set i (oW op)) op.dropLast (i+1) r
   else lN l ((out++[((i+1:Nat):Int)]).set (oW op).toNat (i:Int)) op.dropLast (i+1) r)
  else lN l (out++[((i+1:Nat):Int)]) op (i+1) r
def qE (l:List bA):List Int->List Do->Nat->List Int->List Int
 |out,_,_,[]=>out
 |out,op,i,kd::r=>
  if d9 kd=true then qE l (out.set i ((i+1:Nat):Int)) (op++[((i:Int),(-1),())]) (i+1) r
  else if kd=7 then qE l (out.set i ((i+1:Nat):Int)) (op.dropLast++[((mg op).1,(i:Int),())]) (i+1) r
  else if kd=8 then
   (if eY (db l (mg op).1)=true then qE l ((((out.set i ((i+1:Nat):Int)).set (mg op).1.toNat (i:Int)).set (mg op).1.toNat ((i+1:Nat):Int)).set i (mg op).1) op.dropLast (i+1) r
   else if(mg op).2.1>=0 then qE l ((((out.set i ((i+1:Nat):Int)).set (mg op).1.toNat (i:Int)).set (mg op).1.toNat (wrap .i64 ((mg op).2.1+1))).set (mg op).2.1.toNat (i:Int)) op.dropLast (i+1) r
   else qE l ((out.set i ((i+1:Nat):Int)).set (mg op).1.toNat (i:Int)) op.dropLast (i+1) r)
  else qE l (out.set i ((i+1:Nat):Int)) op (i+1) r
def tH (a:List Int) (t:Int):oW (a++[t])=t:=by simp[oW]
def BL (a:List Do) (t:Do):mg (a++[t])=t:=by simp[mg]
def FJ (f:Do):Int:=if f.2.1>=0 then f.2.1 else f.1
structure Fr (l:List bA) (i:Nat) (op:List Do):Prop where
 lo:∀f∈op,0<=f.1/\f.1<(i:Int)/\f.2.1<(i:Int)
 el:∀f∈op,f.2.1>=0->f.1<f.2.1/\eY (db l f.1)=false/\db l f.2.1=7
 up:op.Pairwise λx y=>x.1<y.1
def Rd (i:Nat) (op:List Do) (a b:List Int):Prop:=∀j:Nat,j<i->(∃f∈op,f.1=(j:Int)/\f.2.1>=0/\a.getD j 0=f.2.1+1)\/((∀f∈op,f.1=(j:Int)->f.2.1<0)/\a.getD j 0=b.getD j 0)
def eD (l:List Int) (i j:Nat) (x:Int) (a:i<l.length):(l.set i x).getD j 0=if i=j then x else l.getD j 0:=by
 simp only[List.getD,List.getElem?_set];by_cases h:i=j
 ·subst h;simp[a]
 ·simp[h]
def NR (l:List Int) (j:Nat) (x:Int):(l++[x]).getD j 0=if j<l.length then l.getD j 0 else if j=l.length then x else 0:=by
 simp only[List.getD];by_cases h:j<l.length
 ·rw[a1l h];simp[h]
 ·by_cases a:j=l.length
  ·subst a;simp
  ·rw[a0d h,a0d a,a1f (by simp;omega)];rfl
def Qe (l:List bA) (hl:l.length<=30):∀(n i:Nat) (a b:List Int) (op:List Do),i+n=l.length->a.length=i->b.length=l.length->Fr l i op->Rd i op a b->kN (dU ((op.map (bW l)).reverse) ((l.drop i).map (·.1)))=true->lN l a (op.map FJ) i ((l.drop i).map (·.1))=qE l b op i ((l.drop i).map (·.1)):=by
 intro n
 induction n with
 |zero=>
  intro i a b op hi Z hb u H o;rw[a2c (by omega)]at o⊢;simp only[a4a,dU,lN,qE]at o⊢;have A:op=[]:=by
   cases hr:((op.map (bW l)).reverse)with
   |nil=>simpa using hr
   |cons x r=>rw[hr]at o;cases o
  subst A;refine a7v (by omega) λj d m=> ?_
  rcases H j (by omega)with⟨f,hf,_⟩|⟨_,e⟩
  ·cases hf
  ·simpa [List.getD,a0a d,a0a m]using e
 |succ n ih=>
  intro i a b op hi Z hb u H o;have O:i<l.length:=by omega
  have ki:db l (i:Int)=l[i].1:=by rw[fF l (by omega) (by simpa using O)];simp
  rw[a1d O,a2g]at o⊢;simp only[dU,a2k]at o
  cases hst:fu ((op.map (bW l)).reverse) l[i].1 with
  |none=>rw[hst]at o;cases o
  |some st=>
  rw[hst,a0c]at o;have q:∀j,(a++[((i+1:Nat):Int)]).getD j 0=if j<i then a.getD j 0 else if j=i then((i+1:Nat):Int)else 0:=λj=>by rw[NR,Z]
  have v:∀j,(b.set i ((i+1:Nat):Int)).getD j 0=if i=j then((i+1:Nat):Int)else b.getD j 0:=λj=>eD b i j _ (by omega)
  simp only[lN,qE]
  cases A:d9 l[i].1 with
  |true=>
   simp only[a1z];have M:op.map FJ++[(i:Int)]=(op++[((i:Int),(-1),())]).map FJ:=by simp[FJ]
   rw[M];refine ih (i+1) _ _ _ (by omega) (by simp;omega) (by simp;omega) ⟨λf hf=> ?_,λf hf h=> ?_,?_⟩ (λj z=> ?_) ?_
   ·rcases a0k.1 hf with hf|hf
    ·have:=u.lo f hf;omega
    ·simp at hf;subst hf;simp;omega
   ·rcases a0k.1 hf with hf|hf
    ·exact u.el f hf h
    ·simp at hf;subst hf;simp at h
   ·refine a4l.2 ⟨u.up,by simp,λx T y P=> ?_⟩
    simp at P;subst P;have:=u.lo x T;simp;omega
   ·by_cases c:j<i
    ·rcases H j c with⟨f,hf,d,m,I⟩|⟨d,m⟩
     ·exact .inl ⟨f,List.mem_append_left _ hf,d,m,by rw[q,a0f c,I]⟩
     ·refine .inr ⟨λf hf h=> ?_,by rw[q,v,a0f c,ifNegQ,m]⟩
      rcases a0k.1 hf with hf|hf
      ·exact d f hf h
      ·simp at hf;subst hf;simp
    ·have:j=i:=by omega
     subst this;refine .inr ⟨λf hf h=> ?_,by rw[q,v,ifNegQ,a0f rfl,a0f rfl]⟩;rcases a0k.1 hf with hf|hf
     ·have:=u.lo f hf;omega
     ·simp at hf;subst hf;simp
   ·have U:((op++[((i:Int),(-1),())]).map (bW l)).reverse=l[i].1::(op.map (bW l)).reverse:=by
     have:bW l ((i:Int),(-1),())=l[i].1:=by unfold bW;rw[a0d (show¬((-1:Int)>=0) by omega),ki]
     simp[this]
    have E:fu ((op.map (bW l)).reverse) l[i].1=some (l[i].1::(op.map (bW l)).reverse):=by unfold fu;rw[a0f A]
    rw[hst]at E;rw[U,<-a1e E];exact o
  |false=>
   simp only[a0t,a1y];rcases a4g op with hn|⟨ini,t,hc⟩
   ·subst hn
    by_cases F:l[i].1=7
    ·rw[F]at hst;simp[md]at hst
    ·by_cases K:l[i].1=8
     ·rw[K]at hst;simp[me]at hst
     ·simp only[a0d F,a0d K]
      have E:fu ((([]:List Do).map (bW l)).reverse) l[i].1=some ((([]:List Do).map (bW l)).reverse):=by
       unfold fu;rw[A];simp only[a0t,a1y,a0d F,a0d K]
      rw[hst]at E;rw[a1e E]at o;refine ih (i+1) _ _ [] (by omega) (by simp;omega) (by simp;omega) ⟨by simp,by simp,by simp⟩ (λj z=> ?_) o;refine .inr ⟨by simp,?_⟩;by_cases c:j<i
      ·rcases H j c with⟨f,hf,_⟩|⟨_,e⟩
       ·cases hf
       ·rw[q,v,a0f c,ifNegQ,e]
      ·rw[q,v,a0d c,ifPosQ,ifPosQ]
   ·rw[a3v]at hc
    subst hc;obtain⟨R0,V,R1⟩:=u.lo t (by simp);have B:=a4l.1 u.up;have g:∀f∈ini,f.1<t.1:=λf hf=>B.2.2 f hf t (by simp)
    have k:Fr l (i+1) ini:=⟨λf hf=>by have:=u.lo f (by simp[hf]);omega,λf hf h=>u.el f (by simp[hf]) h,B.1⟩;have ml:(ini++[t]).map FJ=ini.map FJ++[FJ t]:=by simp
    have em:(((ini++[t]).map (bW l)).reverse)=bW l t::(ini.map (bW l)).reverse:=by simp
    rw[ml,tH,BL,a5v,a5v];rw[em]at hst;by_cases F:l[i].1=7
    ·simp only[a0f F]
     rw[F]at hst;by_cases w:bW l t=5\/bW l t=6
     ·rw[oP w]at hst
      have L:¬t.2.1>=0:=by
       intro h;unfold bW at w;rw[a0f h]at w;omega
      have W:db l t.1=5\/db l t.1=6:=by unfold bW at w;rwa [a0d L]at w
      have Q:eY (db l t.1)=false:=by rcases W with h|h<;>rw[h]<;>rfl
      have M:FJ t=t.1:=by unfold FJ;rw[a0d L]
      have U:ini.map FJ++[(i:Int)]=(ini++[(t.1,(i:Int),())]).map FJ:=by simp[FJ]
      rw[M,U];refine ih (i+1) _ _ _ (by omega) (by simp;omega) (by simp;omega) ⟨λf hf=> ?_,λf hf h=> ?_,?_⟩ (λj z=> ?_) ?_
      ·rcases a0k.1 hf with hf|hf
       ·exact k.lo f hf
       ·simp at hf;subst hf;simp;omega
      ·rcases a0k.1 hf with hf|hf
       ·exact k.el f hf h
       ·simp at hf;subst hf;exact⟨V,Q,by rw[<-F];exact ki⟩
      ·refine a4l.2 ⟨B.1,by simp,λx T y P=> ?_⟩
       simp at P;subst P;exact g x T
      ·have s:((a++[((i+1:Nat):Int)]).set t.1.toNat ((i+1:Nat):Int)).getD j 0=if t.1.toNat=j then((i+1:Nat):Int)else(a++[((i+1:Nat):Int)]).getD j 0:=eD _ _ _ _ (by simp;omega)
       by_cases J:t.1.toNat=j
       ·refine .inl ⟨(t.1,(i:Int),()),by simp,by simp;omega,by simp,?_⟩
        rw[s,a0f J];simp
       ·by_cases c:j<i
        ·rcases H j c with⟨f,hf,d,m,I⟩|⟨d,m⟩
         ·rcases a0k.1 hf with hf|hf
          ·exact .inl ⟨f,List.mem_append_left _ hf,d,m,by rw[s,a0d J,q,a0f c,I]⟩
          ·simp at hf;subst hf;omega
         ·refine .inr ⟨λf hf h=> ?_,by rw[s,a0d J,q,v,a0f c,ifNegQ,m]⟩
          rcases a0k.1 hf with hf|hf
          ·exact d f (by simp[hf]) h
          ·simp at hf;subst hf;simp at h;omega
        ·have:j=i:=by omega
         subst this;refine .inr ⟨λf hf h=> ?_,by rw[s,a0d J,q,v,ifNegQ,a0f rfl,a0f rfl]⟩;rcases a0k.1 hf with hf|hf
         ·have:=k.lo f hf;have:=g f hf;omega
         ·simp at hf;subst hf;simp at h;omega
      ·have k7:bW l (t.1,(i:Int),())=7:=by unfold bW;rw[a0f (by simp)]
       have E:((ini++[(t.1,(i:Int),())]).map (bW l)).reverse=7::(ini.map (bW l)).reverse:=by simp[k7]
       rw[E,a1e hst];exact o
     ·rw[oQ w]at hst;cases hst
    ·by_cases K:l[i].1=8
     ·simp only[a0d F,a0f K]
      rw[K,oR]at hst;rw[<-a1e hst]at o;by_cases C:t.2.1>=0
      ·obtain⟨q1,q2,q3⟩:=u.el t (by simp) C
       have M:FJ t=t.2.1:=by unfold FJ;rw[a0f C]
       have e7:eY (db l t.2.1)=false:=by rw[q3];rfl
       rw[M,e7,q2];simp only[a0t,a1y,a0f C];rw[aj (n:=t.2.1+1) (by omega) (by omega)];refine ih (i+1) _ _ ini (by omega) (by simp;omega) (by simp;omega) k (λj z=> ?_) o;have s:((a++[((i+1:Nat):Int)]).set t.2.1.toNat (i:Int)).getD j 0=if t.2.1.toNat=j then(i:Int)else(a++[((i+1:Nat):Int)]).getD j 0:=eD _ _ _ _ (by simp;omega)
       have G:((((b.set i ((i+1:Nat):Int)).set t.1.toNat (i:Int)).set t.1.toNat (t.2.1+1)).set t.2.1.toNat (i:Int)).getD j 0=if t.2.1.toNat=j then(i:Int)else if t.1.toNat=j then t.2.1+1 else(b.set i ((i+1:Nat):Int)).getD j 0:=by
        rw[eD _ _ _ _ (by simp;omega),eD _ _ _ _ (by simp;omega),eD _ _ _ _ (by simp;omega)];by_cases h:t.1.toNat=j<;>simp[h]
       by_cases p:t.2.1.toNat=j
       ·refine .inr ⟨λf hf h=> ?_,by rw[s,G,a0f p,a0f p]⟩
        have:=g f hf;omega
       ·by_cases D:t.1.toNat=j
        ·refine .inr ⟨λf hf h=> ?_,?_⟩
         ·have:=g f hf;omega
         ·rw[s,G,a0d p,a0d p,a0f D,q,ifPosQ]
          rcases H j (by omega)with⟨f,hf,d,m,I⟩|⟨d,m⟩
          ·rcases a0k.1 hf with hf|hf
           ·have:=g f hf;omega
           ·simp at hf;subst hf;exact I
          ·have:=d t (by simp) (by omega);omega
        ·by_cases c:j<i
         ·rcases H j c with⟨f,hf,d,m,I⟩|⟨d,m⟩
          ·rcases a0k.1 hf with hf|hf
           ·exact .inl ⟨f,hf,d,m,by rw[s,a0d p,q,a0f c,I]⟩
           ·simp at hf;subst hf;omega
          ·exact .inr ⟨λf hf h=>d f (by simp[hf]) h,by rw[s,G,a0d p,a0d p,a0d D,q,v,a0f c,ifNegQ,m]⟩
         ·have:j=i:=by omega
          subst this;refine .inr ⟨λf hf h=> ?_,by rw[s,G,a0d p,a0d p,a0d D,q,v,ifNegQ,a0f rfl,a0f rfl]⟩;have:=k.lo f hf;have:=g f hf;omega
      ·have M:FJ t=t.1:=by unfold FJ;rw[a0d C]
       rw[M];have Qi:∀(R S:List Int),R.length=i+1->S.length=l.length->(∀j,j<i+1->(t.1.toNat=j\/j=i)->R.getD j 0=S.getD j 0)->(∀j,j<i->t.1.toNat≠j->R.getD j 0=a.getD j 0/\S.getD j 0=b.getD j 0)->lN l R (ini.map FJ) (i+1) ((l.drop (i+1)).map (·.1))=qE l S ini (i+1) ((l.drop (i+1)).map (·.1)):=by
        intro R S la lb d m;refine ih (i+1) _ _ ini (by omega) la lb k (λj z=> ?_) o;by_cases D:t.1.toNat=j\/j=i
        ·refine .inr ⟨λf hf h=> ?_,d j z D⟩
         have:=k.lo f hf;have:=g f hf;omega
        ·obtain⟨g1,g2⟩:=m j (by omega) (by omega)
         rcases H j (by omega)with⟨f,hf,X,Y,p3⟩|⟨X,Y⟩
         ·rcases a0k.1 hf with hf|hf
          ·exact .inl ⟨f,hf,X,Y,by rw[g1,p3]⟩
          ·simp at hf;subst hf;omega
         ·exact .inr ⟨λf hf h=>X f (by simp[hf]) h,by rw[g1,g2,Y]⟩
       cases Q:eY (db l t.1)with
       |true=>
        simp only[a1z];have s:∀j,((((a++[((i+1:Nat):Int)]).set t.1.toNat (i:Int)).set t.1.toNat ((i+1:Nat):Int)).set i t.1).getD j 0=if i=j then t.1 else if t.1.toNat=j then((i+1:Nat):Int)else(a++[((i+1:Nat):Int)]).getD j 0:=λj=>by
         rw[eD _ _ _ _ (by simp;omega),eD _ _ _ _ (by simp;omega),eD _ _ _ _ (by simp;omega)];by_cases h:t.1.toNat=j<;>simp[h]
        have G:∀j,((((b.set i ((i+1:Nat):Int)).set t.1.toNat (i:Int)).set t.1.toNat ((i+1:Nat):Int)).set i t.1).getD j 0=if i=j then t.1 else if t.1.toNat=j then((i+1:Nat):Int)else(b.set i ((i+1:Nat):Int)).getD j 0:=λj=>by
         rw[eD _ _ _ _ (by simp;omega),eD _ _ _ _ (by simp;omega),eD _ _ _ _ (by simp;omega)];by_cases h:t.1.toNat=j<;>simp[h]
        refine Qi _ _ (by simp;omega) (by simp;omega) (λj z h=> ?_) (λj z h=> ?_)
        ·rw[s,G]
         by_cases d:i=j
         ·rw[a0f d,a0f d]
         ·rw[a0d d,a0d d,ifPosQ,ifPosQ]
        ·have N:¬i=j:=by omega
         simp only[s,G,q,v,a0d N,a0d h,a0f z];exact⟨trivial,trivial⟩
       |false=>
        simp only[a0t,a1y,a0d C];have s:∀j,((a++[((i+1:Nat):Int)]).set t.1.toNat (i:Int)).getD j 0=if t.1.toNat=j then(i:Int)else(a++[((i+1:Nat):Int)]).getD j 0:=λj=>eD _ _ _ _ (by simp;omega)
        have G:∀j,((b.set i ((i+1:Nat):Int)).set t.1.toNat (i:Int)).getD j 0=if t.1.toNat=j then(i:Int)else(b.set i ((i+1:Nat):Int)).getD j 0:=λj=>eD _ _ _ _ (by simp;omega)
        refine Qi _ _ (by simp;omega) (by simp;omega) (λj z h=> ?_) (λj z h=> ?_)
        ·rw[s,G]
         by_cases d:t.1.toNat=j
         ·rw[a0f d,a0f d]
         ·rw[a0d d,a0d d,q,v,ifNegQ,ifPosQ,ifPosQ]
        ·have N:¬i=j:=by omega
         simp only[s,G,q,v,a0d N,a0d h,a0f z];exact⟨trivial,trivial⟩
     ·simp only[a0d F,a0d K]
      have E:fu (bW l t::(ini.map (bW l)).reverse) l[i].1=some (bW l t::(ini.map (bW l)).reverse):=by
       unfold fu;rw[A];simp only[a0t,a1y,a0d F,a0d K]
      rw[hst]at E;rw[a1e E,<-em]at o;rw[<-ml];refine ih (i+1) _ _ (ini++[t]) (by omega) (by simp;omega) (by simp;omega) ⟨λf hf=>by have:=u.lo f hf;omega,u.el,u.up⟩ (λj z=> ?_) o;by_cases c:j<i
      ·rcases H j c with⟨f,hf,d,m,I⟩|⟨d,m⟩
       ·exact .inl ⟨f,hf,d,m,by rw[q,a0f c,I]⟩
       ·exact .inr ⟨d,by rw[q,v,a0f c,ifNegQ,m]⟩
      ·have:j=i:=by omega
       subst this;exact .inr ⟨λf hf h=>by have:=u.lo f hf;omega,by rw[q,v,ifNegQ,a0f rfl,a0f rfl]⟩
def Ih (l:List bA) (y:l.length<=30):∀(n i:Nat) (a op:List Int),i+n=l.length->a.length=i->(∀x∈a,0<=x/\x<=(l.length:Int))->(∀x∈op,0<=x/\x<(i:Int))->(lN l a op i ((l.drop i).map (·.1))).length=l.length/\∀x∈lN l a op i ((l.drop i).map (·.1)),0<=x/\x<=(l.length:Int):=by
 intro n
 induction n with
 |zero=>
  intro i a op q r f g;rw[a2c (by omega)];simp only[a4a,lN];exact⟨by omega,f⟩
 |succ n ih=>
  intro i a op q r f g;have k:i<l.length:=by omega
  rw[a1d k,a2g];simp only[lN];have b:∀x∈a++[((i+1:Nat):Int)],0<=x/\x<=(l.length:Int):=λx hx=>by
   rcases a0k.1 hx with hx|hx
   ·exact f x hx
   ·simp at hx;omega
  have st:∀(c:List Int) (j:Nat) (v:Int),(∀x∈c,0<=x/\x<=(l.length:Int))->0<=v->v<=(l.length:Int)->∀x∈c.set j v,0<=x/\x<=(l.length:Int):=λc j v s u w x hx=>by
   rcases a2s hx with hx|rfl
   ·exact s x hx
   ·exact⟨u,w⟩
  have m:∀x∈op,0<=x/\x<((i+1:Nat):Int):=λx hx=>by have:=g x hx;omega
  have d:∀x∈op.dropLast,0<=x/\x<((i+1:Nat):Int):=λx hx=>m x (List.dropLast_subset _ hx)
  have e:∀o:List Int,(∀x∈o,0<=x/\x<((i+1:Nat):Int))->∀x∈o++[(i:Int)],0<=x/\x<((i+1:Nat):Int):=λo h x hx=>by
   rcases a0k.1 hx with hx|hx
   ·exact h x hx
   ·simp at hx;omega
  have p:0<=oW op/\oW op<=(l.length:Int):=by
   rcases a4g op with rfl|⟨ini,t,rfl⟩
   ·simp[oW]
   ·rw[a3v,tH]
    have:=g t (by simp[a3v]);omega
  split
  ·exact ih (i+1) _ _ (by omega) (by simp;omega) b (e op m)
  split
  ·exact ih (i+1) _ _ (by omega) (by simp;omega) (st _ _ _ b (by omega) (by omega)) (e _ d)
  split
  ·split
   ·exact ih (i+1) _ _ (by omega) (by simp;omega) (st _ _ _ (st _ _ _ (st _ _ _ b (by omega) (by omega)) (by omega) (by omega)) p.1 p.2) d
   ·exact ih (i+1) _ _ (by omega) (by simp;omega) (st _ _ _ b (by omega) (by omega)) d
  ·exact ih (i+1) _ _ (by omega) (by simp;omega) b m
def cz (l:List bA):List Int:=lN l [] [] 0 (l.map (·.1))
def rV (l:List bA) (a:l.length<=30):(cz l).length=l.length/\∀x∈cz l,0<=x/\x<=(l.length:Int):=Ih l a l.length 0 [] [] (by omega) rfl (by simp) (by simp)
def FK (l:List bA) (a:l.length<=30) (c:mc l=true) (b:List Int) (h:b.length=l.length):qE l b [] 0 (l.map (·.1))=cz l:=(Qe l a l.length 0 [] b [] (by omega) rfl h ⟨by simp,by simp,by simp⟩ (λj d=>absurd d (Nat.not_lt_zero _)) c).symm
def Dr (k:Nat) (l:List bA) (hl:l.length<=30):∀(n i f:Nat) (a op:List Int),i+n=l.length->n<f->a.length=i->op.length<=i->(∀x∈op,0<=x/\x<(i:Int))->kN (dU ((op.map (db l)).reverse) ((l.drop i).map (·.1)))=true->∃m,aH (vJ.l0 k) f (l,a,op,(i:Int),())=some ((lN l a op i ((l.drop i).map (·.1)),m,()),((),())):=by
 intro n
 induction n with
 |zero=>
  intro i f a op T U V C hx c;obtain⟨f,rfl⟩:∃g,f=g+1:=⟨f-1,by omega⟩;have D:¬((i:Int)<(l.length:Int)):=by omega
  rw[a2c (by omega)]at c⊢;have b:op=[]:=by
   simp only[a4a,dU]at c
   cases hr:((op.map (db l)).reverse)with
   |nil=>simpa using hr
   |cons x r=>rw[hr]at c;cases c
  subst b;rw[aD];have A:¬((([]:List Int).length:Int)>0):=by simp
  simp only[vJ.l0,ap,a0d D,a0d A,a4a,lN];exact⟨_,rfl⟩
 |succ n ih=>
  intro i f a op T U V C hx c;obtain⟨f,rfl⟩:∃g,f=g+1:=⟨f-1,by omega⟩;have u:i<l.length:=by omega
  have D:((i:Int)<(l.length:Int)):=by omega
  have E:(0:Int)<=(i:Int):=by omega
  have K:(a.length+([((i+1:Nat):Int)]:List Int).length)*8<=ag:=by simp[ag];omega
  have L:(op.length+([(i:Int)]:List Int).length)*8<=ag:=by simp[ag];omega
  have M:=aB (i:=i);have N:db l (i:Int)=l[i].1:=by rw[fF l E (by simpa using u)];simp
  rw[a1d u,a2g]at c⊢;rw[aD];have B:∀o:List Int,(∀x∈o,0<=x/\x<(i:Int))->∀x∈o++[(i:Int)],0<=x/\x<((i+1:Nat):Int):=λo h x hx=>by
   rcases a0k.1 hx with hx|hx
   ·have:=h x hx;omega
   ·simp at hx;omega
  have j:d9 l[i].1=true->∃m,aH (vJ.l0 k) f (l,a++[((i+1:Nat):Int)],op++[(i:Int)],((i+1:Nat):Int),())=some ((lN l (a++[((i+1:Nat):Int)]) (op++[(i:Int)]) (i+1) ((l.drop (i+1)).map (·.1)),m,()),((),())):=by
   intro b;refine ih (i+1) f _ _ (by omega) (by omega) (by simp;omega) (by simp;omega) (B op hx) ?_
   rw[a3r,a5h];simp only[dU,fu,a0f b,a0c]at c;simpa [N]using c
  have q:d9 l[i].1=false->l[i].1≠7->l[i].1≠8->∃m,aH (vJ.l0 k) f (l,a++[((i+1:Nat):Int)],op,((i+1:Nat):Int),())=some ((lN l (a++[((i+1:Nat):Int)]) op (i+1) ((l.drop (i+1)).map (·.1)),m,()),((),())):=by
   intro b e s;refine ih (i+1) f _ _ (by omega) (by omega) (by simp;omega) (by omega) (λx h=>by have:=hx x h;omega) ?_
   simpa only[dU,fu,b,a0t,a1y,a0d e,a0d s,a0c]using c
  rcases a4g op with hn|⟨ini,t,hc⟩
  ·subst hn
   have A:¬((([]:List Int).length:Int)>0):=by simp
   simp only[vJ.l0,ap (p:=(i:Int)<(l.length:Int)),a0f D,ap (p:=(0:Int)<=(i:Int)),a0f E,M,ap (p:=(a.length+([((i+1:Nat):Int)]:List Int).length)*8<=ag),a0f K,ap (p:=(([]:List Int).length:Int)>0),a0d A,a0i,a0a u,ac,m4,lN]
   cases b:d9 l[i].1 with
   |true=>
    simp only[ai,ap,a0f L,a1z];exact j b
   |false=>
    simp only[ah,cx,a0t,a1y];by_cases e:l[i].1=7
    ·rw[e]at c;simp[dU,md,kN]at c
    ·by_cases s:l[i].1=8
     ·rw[s]at c;simp[dU,me,kN]at c
     ·simp only[a0d e,a0d s]
      exact q b e s
  ·rw[a3v]at hc
   subst hc;have F:=hx t (by simp);have v:t.toNat<l.length:=by omega
   have A:(((ini++[t]).length:Int)>0):=by simp only[a0j,a0h,a0g];omega
   have W:(((ini++[t]).length:Int)-1)=(ini.length:Int):=by simp
   have G:wrap .i64 (ini.length:Int)=(ini.length:Int):=aj (by omega) (by simp at C;omega);have c1:0<=(ini.length:Int)/\(ini.length:Int)<((ini++[t]).length:Int):=by simp only[a0j,a0h,a0g];omega
   have c2:0<=(ini.length:Int)/\(ini.length:Int)<=((ini++[t]).length:Int):=by simp only[a0j,a0h,a0g];omega
   have X:(ini++[t])[ini.length]?=some t:=by simp
   have O:=fF l F.1 v;have P:0<=t/\t<((a++[((i+1:Nat):Int)]).length:Int):=by simp;omega
   have Q:¬t<0:=by omega
   obtain⟨y8,R⟩:∃y,(a++[((i+1:Nat):Int)])[t.toNat]?=some y:=⟨_,a0a (by simp;omega)⟩;have Y:aM (ini++[t]) ((0:Int).toNat) (ini.length-(0:Int).toNat)=ini:=by simp[aM]
   have S:(((ini++[t]).map (db l)).reverse)=l[t.toNat].1::(ini.map (db l)).reverse:=by simp[O]
   simp only[vJ.l0,ap (p:=(i:Int)<(l.length:Int)),a0f D,ap (p:=(0:Int)<=(i:Int)),a0f E,M,ap (p:=(a.length+([((i+1:Nat):Int)]:List Int).length)*8<=ag),a0f K,ap (p:=((ini++[t]).length:Int)>0),a0f A,W,G,ap (p:=0<=(ini.length:Int)/\(ini.length:Int)<((ini++[t]).length:Int)),a0f c1,a0i,X,a0a u,ac,m4,lN,tH,a5v]
   cases b:d9 l[i].1 with
   |true=>
    simp only[ai,ap,a0f L,a1z];exact j b
   |false=>
    simp only[ah,cx,a0t,a1y];by_cases e:l[i].1=7
    ·simp only[a0f e,ap,a0d Q,a0f F.1,a0a v,ac]
     rw[S,e]at c;by_cases w:l[t.toNat].1=5\/l[t.toNat].1=6
     ·have Z:(br k (l[t.toNat].1 !=5) (some (l[t.toNat].1 !=6,())) (some (false,())):Option (Bool×Unit))=some (false,()):=by
       rcases w with h|h<;>simp[h]
      simp only[Z,a0c,ah,a0f P,R,ac,a0f c1];have H:(ini++[t]).set ini.length (i:Int)=ini++[(i:Int)]:=by simp
      rw[H];refine ih (i+1) f _ _ (by omega) (by omega) (by simp;omega) (by simp at C⊢;omega) (B ini λx h=>hx x (by simp[h])) ?_
      simp only[dU,oP w,a0c]at c;simpa [N,e]using c
     ·simp[dU,oQ w,kN]at c
    ·by_cases s:l[i].1=8
     ·rw[S,s]at c
      simp only[dU,oR,a0c]at c;have done:∀d:List Int,d.length=i+1->∃m,aH (vJ.l0 k) f (l,d,ini,((i+1:Nat):Int),())=some ((lN l d ini (i+1) ((l.drop (i+1)).map (·.1)),m,()),((),())):=by
       intro d I;exact ih (i+1) f d ini (by omega) (by omega) I (by simp at C;omega) (λx h=>by have:=hx x (by simp[h]);omega) c
      have c5:0<=t/\t<(((a++[((i+1:Nat):Int)]).set t.toNat (i:Int)).length:Int):=by simp;omega
      obtain⟨z,ez⟩:∃y,((a++[((i+1:Nat):Int)]).set t.toNat (i:Int))[t.toNat]?=some y:=⟨_,a0a (by simp;omega)⟩;have c6:0<=(i:Int)/\(i:Int)<((((a++[((i+1:Nat):Int)]).set t.toNat (i:Int)).set t.toNat ((i+1:Nat):Int)).length:Int):=by simp;omega
      obtain⟨z2,J⟩:∃y,(((a++[((i+1:Nat):Int)]).set t.toNat (i:Int)).set t.toNat ((i+1:Nat):Int))[i]?=some y:=⟨_,a0a (by simp;omega)⟩;simp only[a0d e,a0f s,ap,a0d Q,a0f c2,a0f P,R,ac,a0f F.1,a0a v,qz,Y,a0f c5,ez,a0f c6,J,O]
      cases eY l[t.toNat].1 with
      |true=>simp only[ai,a1z];exact done _ (by simp;omega)
      |false=>simp only[ah,a0t,a1y];exact done _ (by simp;omega)
     ·simp only[a0d e,a0d s]
      exact q b e s
def Ds (k:Nat) (l:List bA) (hl:l.length<=30):∀(n i f:Nat) (a:List Int) (op:List Do),i+n=l.length->n<f->a.length=l.length->op.length<=i->Fr l i op->kN (dU ((op.map (bW l)).reverse) ((l.drop i).map (·.1)))=true->∃q,aH (zS.l0 k) f (l,a,(op,()),(l.length:Int),(i:Int),())=some ((qE l a op i ((l.drop i).map (·.1)),q,()),((),())):=by
 intro n
 induction n with
 |zero=>
  intro i f a op Z hf ho F e b;obtain⟨f,rfl⟩:∃g,f=g+1:=⟨f-1,by omega⟩;have H:¬((i:Int)<(l.length:Int)):=by omega
  rw[aD,a2c (by omega)];simp only[zS.l0,ap,a0d H,a4a,qE];exact⟨_,rfl⟩
 |succ n ih=>
  intro i f a op Z hf ho F e b;have hx:=e.lo;obtain⟨f,rfl⟩:∃g,f=g+1:=⟨f-1,by omega⟩;have w:i<l.length:=by omega
  have H:((i:Int)<(l.length:Int)):=by omega
  have W:(0:Int)<=(i:Int):=by omega
  have h4:0<=(i:Int)/\(i:Int)<(a.length:Int):=by omega
  have m2:(op.length+([((i:Int),(-1),())]:List Do).length)*16<=ag:=by simp[ag];omega
  have ew:=aB (i:=i);have X:db l (i:Int)=l[i].1:=by rw[fF l W (by simpa using w)];simp
  have I:bW l ((i:Int),(-1),())=l[i].1:=by
   unfold bW;rw[a0d (show¬((-1:Int)>=0) by decide),X]
  obtain⟨y1,eo⟩:∃y,a[i]?=some y:=⟨_,a0a (by omega)⟩;have G:(a.set i ((i+1:Nat):Int)).length=l.length:=by simp;omega
  have J:Fr l (i+1) op:=⟨λf hf=>by have:=e.lo f hf;omega,e.el,e.up⟩;rw[a1d w,a2g]at b⊢;rw[aD];simp only[zS.l0,J7,ap (p:=(i:Int)<(l.length:Int)),a0f H,ap (p:=(0:Int)<=(i:Int)),a0f W,ap (p:=0<=(i:Int)/\(i:Int)<(a.length:Int)),a0f h4,ew,a0i,eo,a0a w,ac,lz,pq,qE];have hq:(br k (l[i].1==5||l[i].1==6) (some (true,())) (some (eY l[i].1,())):Option (Bool×Unit))=some (d9 l[i].1,()):=by
   rw[uW];cases (l[i].1==5||l[i].1==6)<;>simp
  simp only[hq,a0c]
  cases hop:d9 l[i].1 with
  |true=>
   have s:(l[i].1 !=8)=true:=by
    by_cases h:l[i].1=8
    ·rw[h]at hop;exact absurd hop (by decide)
    ·simpa using h
   simp only[ai,ap,a0f m2,ac,a0o,ah,s,a1z];refine ih (i+1) f _ _ (by omega) (by omega) G (by simp;omega) ⟨λf hf=> ?_,λf hf h=> ?_,?_⟩ ?_
   ·rcases a0k.1 hf with hf|hf
    ·have:=e.lo f hf;omega
    ·simp at hf;subst hf;simp;omega
   ·rcases a0k.1 hf with hf|hf
    ·exact e.el f hf h
    ·simp at hf;subst hf;simp at h
   ·refine a4l.2 ⟨e.up,by simp,λx z y D=> ?_⟩
    simp at D;subst D;have:=e.lo x z;simp;omega
   ·simp only[dU,fu,a0f hop,a0c]at b
    simpa [I]using b
  |false=>
   simp only[ah,cx,a0t,a1y];rcases a4g op with hn|⟨ini,t,hc⟩
   ·subst hn
    have K:wrap .i64 ((([]:List Do).length:Int)-1)<0:=by rw[aj (by simp) (by simp)];simp
    by_cases j:l[i].1=7
    ·rw[j]at b;simp[dU,md,kN]at b
    ·by_cases m:l[i].1=8
     ·rw[m]at b;simp[dU,me,kN]at b
     ·have s:(l[i].1 !=8)=true:=by simpa using m
      simp only[a0d j,a0d m,ac,a0o,ah,s,ai];refine ih (i+1) f _ [] (by omega) (by omega) G (by simp) ⟨by simp,by simp,by simp⟩ ?_
      simpa only[dU,fu,hop,a0t,a1y,a0d j,a0d m,a0c]using b
   ·rw[a3v]at hc
    subst hc;obtain⟨A,L,R0⟩:=hx t (by simp);have B:t.1.toNat<l.length:=by omega
    have o:=a4l.1 e.up;have C:∀f∈ini,f.1<t.1:=λf hf=>o.2.2 f hf t (by simp)
    have r:Fr l (i+1) ini:=⟨λf hf=>by have:=e.lo f (by simp[hf]);omega,λf hf h=>e.el f (by simp[hf]) h,o.1⟩;have el:(((ini++[t]).length:Int)-1)=(ini.length:Int):=by simp
    have M:wrap .i64 (ini.length:Int)=(ini.length:Int):=aj (by omega) (by simp at F;omega);have K:¬(ini.length:Int)<0:=by omega
    have c1:0<=(ini.length:Int)/\(ini.length:Int)<((ini++[t]).length:Int):=by simp only[a0j,a0h,a0g];omega
    have c2:0<=(ini.length:Int)/\(ini.length:Int)<=((ini++[t]).length:Int):=by simp only[a0j,a0h,a0g];omega
    have eg:(ini++[t])[ini.length]?=some t:=by simp
    have N:=fF l A B;have es:aM (ini++[t]) ((0:Int).toNat) (ini.length-(0:Int).toNat)=ini:=by simp[aM]
    have Y:(((ini++[t]).map (bW l)).reverse)=bW l t::(ini.map (bW l)).reverse:=by simp
    simp only[el,M,a0i,eg,BL,a5v];by_cases j:l[i].1=7
    ·simp only[a0f j,ap,a0d K,a0f c1,a0f A,ac,a0a B,lz]
     rw[Y,j]at b;by_cases d:bW l t=5\/bW l t=6
     ·have u:¬t.2.1>=0:=by
       intro h;unfold bW at d;rw[a0f h]at d;omega
      have E:l[t.1.toNat].1=5\/l[t.1.toNat].1=6:=by
       unfold bW at d;rw[a0d u,N]at d;exact d
      have O:(br k (!(l[t.1.toNat].1==5||l[t.1.toNat].1==6)) (some (true,())) (some (decide (t.2.1>=0),())):Option (Bool×Unit))=some (false,()):=by
       have:(l[t.1.toNat].1==5||l[t.1.toNat].1==6)=true:=by rcases E with h|h<;>simp[h]
       rw[this,a0o,ah,a0m u]
      have s:(l[i].1 !=8)=true:=by rw[j];decide
      simp only[O,a0c,ah,ac,a0o,s,ai];have P:(ini++[t]).set ini.length (t.1,(i:Int),())=ini++[(t.1,(i:Int),())]:=by simp
      rw[P];have k7:bW l (t.1,(i:Int),())=7:=by unfold bW;rw[a0f (show((i:Int)>=0) by omega)]
      have Q:eY (db l t.1)=false:=by rw[N];rcases E with h|h<;>rw[h]<;>rfl
      refine ih (i+1) f _ _ (by omega) (by omega) G (by simp at F⊢;omega) ⟨λf hf=> ?_,λf hf h=> ?_,?_⟩ ?_
      ·rcases a0k.1 hf with hf|hf
       ·exact r.lo f hf
       ·simp at hf;subst hf;simp;omega
      ·rcases a0k.1 hf with hf|hf
       ·exact r.el f hf h
       ·simp at hf;subst hf;exact⟨L,Q,by rw[<-j];exact X⟩
      ·refine a4l.2 ⟨o.1,by simp,λx z y D=> ?_⟩
       simp at D;subst D;exact C x z
      ·simp only[dU,oP d,a0c]at b
       simpa [k7]using b
     ·simp[dU,oQ d,kN]at b
    ·by_cases m:l[i].1=8
     ·rw[Y,m]at b
      simp only[dU,oR,a0c]at b;have s:(l[i].1 !=8)=false:=by rw[m];decide
      have done:∀c:List Int,c.length=l.length->∃q,aH (zS.l0 k) f (l,c,(ini,()),(l.length:Int),((i+1:Nat):Int),())=some ((qE l c ini (i+1) ((l.drop (i+1)).map (·.1)),q,()),((),())):=λc R=>ih (i+1) f c ini (by omega) (by omega) R (by simp at F;omega) r b
      simp only[a0d j,a0f m,ap,a0d K,a0f c1,a0f c2,es,ac,a0o,ah,s];have c3:0<=t.1/\t.1<((a.set i ((i+1:Nat):Int)).length:Int):=by simp;omega
      obtain⟨a1,S⟩:∃y,(a.set i ((i+1:Nat):Int))[t.1.toNat]?=some y:=⟨_,a0a (by simp;omega)⟩;have c4:0<=t.1/\t.1<(((a.set i ((i+1:Nat):Int)).set t.1.toNat (i:Int)).length:Int):=by simp;omega
      obtain⟨a2,T⟩:∃y,((a.set i ((i+1:Nat):Int)).set t.1.toNat (i:Int))[t.1.toNat]?=some y:=⟨_,a0a (by simp;omega)⟩;have c5:0<=(i:Int)/\(i:Int)<((((a.set i ((i+1:Nat):Int)).set t.1.toNat (i:Int)).set t.1.toNat ((i+1:Nat):Int)).length:Int):=by simp;omega
      obtain⟨a3,U⟩:∃y,(((a.set i ((i+1:Nat):Int)).set t.1.toNat (i:Int)).set t.1.toNat ((i+1:Nat):Int))[i]?=some y:=⟨_,a0a (by simp;omega)⟩;simp only[a0f c3,S,ac,a0f A,a0a B,pq,a0f c4,T,a0f c5,U,N]
      cases eY l[t.1.toNat].1 with
      |true=>simp only[ai,a1z];exact done _ (by simp;omega)
      |false=>
       simp only[ah,a0t,a1y];by_cases v:t.2.1>=0
       ·have c6:0<=t.2.1/\t.2.1<((((a.set i ((i+1:Nat):Int)).set t.1.toNat (i:Int)).set t.1.toNat (wrap .i64 (t.2.1+1))).length:Int):=by simp;omega
        obtain⟨a4,V⟩:∃y,(((a.set i ((i+1:Nat):Int)).set t.1.toNat (i:Int)).set t.1.toNat (wrap .i64 (t.2.1+1)))[t.2.1.toNat]?=some y:=⟨_,a0a (by simp;omega)⟩;simp only[a0f v,a0f c6,V,ac];exact done _ (by simp;omega)
       ·simp only[a0d v]
        exact done _ (by simp;omega)
     ·have s:(l[i].1 !=8)=true:=by simpa using m
      simp only[a0d j,a0d m,ac,a0o,ah,s,ai];refine ih (i+1) f _ (ini++[t]) (by omega) (by omega) G (by omega) J ?_
      simpa only[dU,fu,hop,a0t,a1y,a0d j,a0d m,a0c]using b
def eE {p:eC} (h:fG p=true):aO (au p)=true/\p.2.2.2.1.length<=30/\(∀n∈p.2.2.2.1,bt (au p) n=true)/\mc p.2.2.2.1=true:=by
 unfold fG at h;simp only[a0e,a0v,a1g]at h;exact⟨h.1,h.2.1,h.2.2.1,h.2.2.2⟩
def za (k:Nat) (f:4194304<k) (b:k<=4611686018427387903) (p:eC) (g:m6 p) (a:fG p=true):JZ k (p,())=some ((cz p.2.2.2.1,()),((),())):=by
 obtain⟨_,c,_,i⟩:=eE a;unfold JZ;obtain⟨m,e⟩:=Dr k p.2.2.2.1 c p.2.2.2.1.length 0 k [] [] (by omega) (by omega) rfl (a1m _) (λx h=>by simp at h) i;have j:vJ k (p.2.2.2.1,())=some ((cz p.2.2.2.1,m,()),((),())):=e;have d:=pV k f b p g;rw[a]at d;simp only[d,ac,a0o,ah,j]
def zb (k:Nat) (h:4194304<k) (p:eC) (b:fG p=true):J9 k (p,())=some ((cz p.2.2.2.1,()),((),())):=by
 obtain⟨_,a,_,c⟩:=eE b;unfold J9 zS;have d:0<=(p.2.2.2.1.length:Int)/\(p.2.2.2.1.length:Int)<=(p.2.2.2.1.length:Int)/\(p.2.2.2.1.length:Int)*8<=ag:=by simp[ag];omega
 obtain⟨q,e⟩:=Ds k p.2.2.2.1 a p.2.2.2.1.length 0 k (List.replicate p.2.2.2.1.length (Kd.z (.int .i64))) [] (by omega) (by omega) (by simp) (a1m _) ⟨by simp,by simp,by simp⟩ c;have f:=FK p.2.2.2.1 a c (List.replicate p.2.2.2.1.length (Kd.z (.int .i64))) (by simp);have g:aH (zS.l0 k) k (p.2.2.2.1,List.replicate p.2.2.2.1.length (Kd.z (.int .i64)),([],()),(p.2.2.2.1.length:Int),0,())=some ((cz p.2.2.2.1,q,()),((),())):=by rw[<-f];exact e
 simp only[ap,a0f d,a0i,g,ac]
structure Rq (l:List Int):Prop where
 n:l.length<=100
 d:l.Nodup
 f:∀x∈l,ax x
 z:0<l.length
def Ii (h:dn d l=true):l.length<=100/\(∀p∈l,aZ p.1=true/\eQ d p.2.1=true/\cP p.2.1=true)/\l.Pairwise λp q=>da p.1 q.1<0:=by
 unfold dn at h;simp only[a0e,a0v]at h;refine⟨h.1,λp a=> ?_,(Fw l none h.2.2).2⟩;have:=a1g.1 h.2.1 p a;simpa only[gc,a0e]using this
def Ij {t:List bc} (h:eQ d t=true):(t.length:Int)=2^d.2.1.length/\∀e∈t,eP d e=true:=by
 unfold eQ at h;simp only[a0e,a0v]at h;exact⟨h.1,a1g.1 h.2⟩
end Go.Pev.F
namespace Go.Pev.F.Cp
end Go.Pev.F.Cp
namespace Go.Pev.F
variable {d:aE} {l:List aI} {p:eC} {r:List Int×Int×Unit} {e:bc} {i:Nat} {lo hi:Int}
def QP (e:bc):Prop:=(∀x∈e.2.1,bi x)/\∀x∈e.2.2.1,bi x
def LJ (l:List aI):Prop:=∀p∈l,∀e∈p.2.1,QP e
def FL {l:List bq} (h:ru l=true):∀x∈l,bo x=true:=by
 unfold ru at h;simp only[a2o,a7p,a3z,Bool.not_eq_false']at h;intro x a;simpa using h x a
def FN {l:List bq} (h:∀x∈l,bo x=true):ru l=true:=by
 unfold ru;simp only[a2o,a7p];intro x a;rw[h x a];simp
def NS (h:eP d e=true) (f:QP e):aV d e:=by
 unfold eP at h;rcases a0p e.1 with hl|hl
 ·rw[cT hl]at h
  simp only[a0e,a3b]at h;exact Or.inl ⟨hl,⟨by omega,by omega,f.1,f.2⟩,FL h.2.2.1,FL h.2.2.2⟩
 ·rw[cF hl]at h
  simp only[a0e,a3b]at h;have g:e.2.1=[]:=a4n.1 (by omega);have i:e.2.2.1=[]:=a4n.1 (by omega);refine Or.inr ?_
  obtain⟨a,b,c,⟨⟩⟩:=e;simp only at hl g i;rw[hl,g,i];rfl
def NT (h:aV d e):eP d e=true:=by
 unfold eP;rcases h with⟨b,a,c,f⟩|h
 ·have g:=a.ints
  have i:=a.arrs;rw[cT b,FN c,FN f];simp only[a6j,a0e,a3b];omega
 ·rw[h];rfl
def nd (h:dn d l=true) (c:LJ l):eK d l/\l.length<=100:=by
 obtain⟨f,g,i⟩:=Ii h;refine⟨⟨λp a=> ?_,i⟩,f⟩;obtain⟨a1,j,n⟩:=g p a;obtain⟨k,m⟩:=Ij j;refine⟨a1,?_,λe b=>NS (m e b) (c p a e b)⟩;have:((p.2.1.length:Nat):Int)=((2^d.2.1.length:Nat):Int):=by rw[k];simp
 omega
def jR (l:List aI):Prop:=∀p∈l,cP p.2.1=true
def Jb:∀(l:List aI) (a:Option (List cG)),(∀s,a=some s->∀p∈l,da s p.1<0)->Ib l->lw a l=true
 |[],_,_,_=>rfl
 |p::l,a,h,hr=>by
  obtain⟨b,c⟩:=a4i.1 hr;simp only[lw,a0e];refine⟨?_,Jb l (some p.1) (λs d q e=>by cases d;exact b q e) c⟩;unfold rN
  cases a with
  |none=>rfl
  |some s=>
   have:=h s rfl p (by simp);simp only[a2o,a6l];omega
def NU (h:eK d l) (c:l.length<=100) (f:jR l):dn d l=true:=by
 unfold dn;rw[a0b c,Jb l none (λs g=>by cases g) h.r,a6j,a1n,a1g];intro p b;have a:=h.p p b;unfold gc eQ;rw[a.t,f p b,a.m.n];simp only[a6j,a1n,a0e,a0v,a1g];exact⟨by simp,λe i=>NT (a.m.e e i)⟩
structure Re (p:eC) (rows:List (List aI)):Prop where
 n:rows.length=p.2.2.2.1.length+1
 g:∀l∈rows,eK (au p) l/\l.length<=100
def LK (d:aE) (n:bA) (at_ a:Int):jQ d n at_ a []=([],0,false,()):=rfl
def Ik (p:eC) (rows:List (List aI)) (i:Nat):qC:=jQ (au p) (p.2.2.2.1.getD i (0,0,[],[],0,0,())) (i:Int) ((cz p.2.2.2.1).getD i 0) (rows.getD i [])
def Dt (b:fG p=true) (c:i<p.2.2.2.1.length):(cz p.2.2.2.1)[i]?=some ((cz p.2.2.2.1).getD i 0)/\0<=(cz p.2.2.2.1).getD i 0/\(cz p.2.2.2.1).getD i 0<=(p.2.2.2.1.length:Int):=by
 obtain⟨g,d,_,_⟩:=eE b;obtain⟨e,f⟩:=rV p.2.2.2.1 d;have a:i<(cz p.2.2.2.1).length:=by rw[e];exact c
 refine⟨by rw[bh a];exact a0a a,?_⟩;rw[bh a];exact f _ (a0n a)
structure FO (p:eC) (f:qC):Prop where
 n:f.1.length<=2
 e:∀e∈f.1,eK (au p) e.2.1/\e.2.1.length<=100/\0<=e.1/\e.1<=(p.2.2.2.1.length:Int)
def FQ (c:fG p=true) {rows:List (List aI)} (f:i<p.2.2.2.1.length) (l:∀q∈rows.getD i [],fP (au p) q):FO p (Ik p rows i):=by
 obtain⟨m,k,g,_⟩:=eE c;have h:p.2.2.2.1.getD i (0,0,[],[],0,0,())=p.2.2.2.1[i]:=bh f _;have j:=Ig m (g _ (a0n f)) (i:Int) l;have d:=Dt c f;unfold Ik jQ;rw[h];obtain⟨S,n⟩:∃S,S=iV (au p) p.2.2.2.1[i] (i:Int) (rows.getD i []):=⟨_,rfl⟩;rw[<-n]at j⊢;rcases a0p (decide (S.1.length>100)||decide (S.2.length>100))with hc|hc
 ·rw[cT hc];exact⟨a4j _,λe he=>by cases he⟩
 ·rw[cF hc]
  simp only[Bool.or_eq_false_iff,a6l]at hc;unfold nc;refine⟨by rw[a0j];split<;>split<;>simp,λe he=> ?_⟩;simp only at he;rcases a0k.1 he with he|he
  ·split at he
   ·rw[a0x.1 he];exact⟨j.a,by simp only;omega,by simp only;omega,by simp only;omega⟩
   ·cases he
  ·split at he
   ·rw[a0x.1 he];exact⟨j.b,by simp only;omega,d.2.1,d.2.2⟩
   ·cases he
def eR (p:eC) (at_:Int) (l:List aI):qC:=cond (fG p&& (decide (0<=at_/\at_<=(p.2.2.2.1.length:Int)-1)&& dn (au p) l)) (jQ (au p) (p.2.2.2.1.getD at_.toNat (0,0,[],[],0,0,())) at_ ((cz p.2.2.2.1).getD at_.toNat 0) l) ([],0,false,())
def qF (a:fG p=true) {n:Nat} (b:n<p.2.2.2.1.length) (c:∀q∈l,fP (au p) q):FO p (jQ (au p) (p.2.2.2.1.getD n (0,0,[],[],0,0,())) (n:Int) ((cz p.2.2.2.1).getD n 0) l):=by
 have e:(List.replicate (n+1) l).getD n []=l:=by simp[List.getD]
 have h:=FQ a b (rows:=List.replicate (n+1) l) (by rw[e];exact c);unfold Ik at h;rw[e]at h;exact h
def Du {at_:Int} (c:LJ l):FO p (eR p at_ l):=by
 unfold eR;rcases a0p (fG p&& (decide (0<=at_/\at_<=(p.2.2.2.1.length:Int)-1)&& dn (au p) l))with h|h
 ·rw[cT h]
  simp only[a0e,a0v]at h;obtain⟨a,d,b⟩:=h;obtain⟨n,f⟩:∃n:Nat,at_=n:=⟨at_.toNat,by omega⟩;subst f;rw[a0i];exact qF a (by omega) (nd b c).1.p
 ·rw[cF h]
  exact⟨a4j _,λe g=>by cases g⟩
def FR (p:eC) (at_:Int):eR p at_ []=([],0,false,()):=by
 unfold eR;rw[LK]
 cases (fG p&& (decide (0<=at_/\at_<=(p.2.2.2.1.length:Int)-1)&& dn (au p) []))<;>rfl
def u1 {k:Nat} (c:4194304<k) (d:k<=4611686018427387903) (p:eC) (j:m6 p) (at_:Int) (l:List aI) (m:jk l) (o:LJ l):EM k (p,at_,l,())=some ((eR p at_ l,()),((),(),(),())):=by
 simp only[EM,Ar k c d p j,ac,MW,dh];unfold eR;rcases a0p (fG p)with hok|hok
 ·obtain⟨h,i,e,_⟩:=eE hok
  have w:wrap .i64 ((p.2.2.2.1.length:Int)-1)=(p.2.2.2.1.length:Int)-1:=aj (by omega) (by omega);have q:Hs k ((p.1,p.2.1,p.2.2.1,()),l,())=some ((dn (au p) l,()),((),(),())):=uV k c (au p) (eJ h).2.1 l m;rw[hok,a0o,ah,w,a1n];by_cases b:0<=at_/\at_<=(p.2.2.2.1.length:Int)-1
  ·rw[a0b b,a0o,ah,q,ac,a0c,a1n]
   rcases a0p (dn (au p) l)with hpo|hpo
   ·obtain⟨n,r⟩:∃n:Nat,at_=n:=⟨at_.toNat,by omega⟩
    subst r;have a:n<p.2.2.2.1.length:=by omega
    have g:=nd hpo o;have f:=LH c p h (e _ (a0n a)) (a0a a) (by omega) _ (Dt hok a).1 g.1.p (by omega);rw[hpo,a0o,ah,cT rfl,zb k c p hok,ac,f,ac,a0i,bh a]
   ·rw[hpo,a0u,ai,cF rfl]
  ·rw[a0m b,a0u,ai,a0c,ai,a3q,cF rfl]
 ·rw[hok,a0u,ai,a0c,ai,a3q,cF rfl]
def FS {k:Nat} (q:4194304<k) (c:k<=4611686018427387903) (p:eC) (r:m6 p) (at_:Int) (l:List aI) (y:jk l) (z:LJ l):xT k (p,at_,l,())=some ((eR p at_ l,()),((),(),(),())):=by
 simp only[xT,pV k q c p r,ac,jt];unfold eR;rcases a0p (fG p)with hok|hok
 ·obtain⟨s,h,t,_⟩:=eE hok
  have w:wrap .i64 ((p.2.2.2.1.length:Int)-1)=(p.2.2.2.1.length:Int)-1:=aj (by omega) (by omega);have A:vm k ((p.1,p.2.1,p.2.2.1,()),l,())=some ((dn (au p) l,()),((),(),())):=yF k q (au p) r.d s l y;rw[hok,a0o,ah,w,a1n];by_cases j:0<=at_/\at_<=(p.2.2.2.1.length:Int)-1
  ·rw[a0b j,a0o,ah,A,ac,a0c,a1n]
   rcases a0p (dn (au p) l)with hpo|hpo
   ·obtain⟨n,B⟩:∃n:Nat,at_=n:=⟨at_.toNat,by omega⟩
    subst B;have a:n<p.2.2.2.1.length:=by omega
    have C:=(rV p.2.2.2.1 h).1;have g:=nd hpo z;have u:=FI q p s (t _ (a0n a)) (a0a a) (by omega) ((cz p.2.2.2.1).getD n 0) g.1.p (by omega);have m:=qF hok a g.1.p;rw[bh a]at m;rw[hpo,a0o,ah,cT rfl,za k q c p r hok,ac,a0b (show 0<=(n:Int)/\(n:Int)<((cz p.2.2.2.1).length:Int) by omega),ai,a0i,(Dt hok a).1,ac,u,ac,bh a];obtain⟨F,D⟩:∃F,F=jQ (au p) p.2.2.2.1[n] (n:Int) ((cz p.2.2.2.1).getD n 0) l:=⟨_,rfl⟩;rw[<-D]at m⊢;refine bg (b:=xT.l0 k) (λi=>(([],0,false,()),(F.1,F.2.1,F.2.2.1,()),(i:Int),())) F.1.length (λG i v=> ?_) (λG=> ?_) (f:=k) (by have:=m.n;omega)
    ·obtain⟨E,H,I,J⟩:=m.e _ (a0n v)
     have x:=ND (k:=k) (by omega) s E.p H;have o:F.1.set i (F.1[i].1,F.1[i].2.1,())=F.1:=a5o v;simp only[xT.l0];rw[a0b (show(i:Int)<(F.1.length:Int) by omega),a0b (show 0<=(i:Int)/\(i:Int)<(F.1.length:Int) by omega)];simp only[ai,a0i,a0a v,ac,x,o];rw[aB (i:=i) (by have:=m.n;omega)]
    ·simp only[xT.l0]
     rw[a0m (show¬(F.1.length:Int)<(F.1.length:Int) by omega),ah]
   ·rw[hpo,a0u,ai,cF rfl]
  ·rw[a0m j,a0u,ai,a0c,ai,a3q,cF rfl]
 ·rw[hok,a0u,ai,a0c,ai,a3q,cF rfl]
def LL {w:Option (List Int)} {a b:List bc} (h:cP a=true) (k:a.length=b.length):cP (iM w a b)=true:=by
 unfold cP at h⊢;obtain⟨x,f,d⟩:=a2x.1 h;obtain⟨i,l,rfl⟩:=a2h.1 f;have g:i<(iM w a b).length:=by unfold iM;rw[a2l];omega
 refine a2x.2 ⟨(iM w a b)[i],a0n g,?_⟩;have e:(iM w a b)[i]=Lo w a[i] (b[i]'(by omega)):=List.getElem_zipWith;rw[e];obtain⟨y,j⟩:∃y,y=b[i]'(by omega):=⟨_,rfl⟩;rw[<-j]
 cases w with
 |none=>
  show(cE a[i] y).1=true;unfold cE;rw[cT d];rcases a0p y.1 with c|c
  ·rw[cT c]
  ·rw[cF c];exact d
 |some st=>
  show(jK st a[i] y).1=true;unfold jK;rw[cT d];rcases a0p y.1 with c|c
  ·rw[cT c]
  ·rw[cF c];exact d
def LM {w:Option (List Int)} {p:aI} (c:∀q∈l,fP d q) (a:fP d p) (b:jR l) (e:cP p.2.1=true):jR (f7 w l p):=λx f=>by
 rcases rQ f with h|h|⟨q,hq,_,h⟩
 ·exact b x h
 ·rw[h];exact e
 ·rw[h]
  exact LL (b q hq) (by rw[(c q hq).m.n,a.m.n])
def FT {leaf:Int} (h:dv d leaf) (b:e.1=true):cP (jO d leaf e)=true:=by
 unfold cP jO;have a:leaf.toNat<(List.replicate (2^d.2.1.length) bm).length:=by
  rw[a2a];obtain⟨f,c⟩:=h;have g:leaf<((2^d.2.1.length:Nat):Int):=by simpa using c
  omega
 exact a2x.2 ⟨e,a3n (a4w a),b⟩
def zc (f:eK d l) (b:jR l) {t:List cG} (g:aZ t=true) {leaf:Int} (a:dv d leaf) (h:aV d e):jR (vu d l t leaf e):=by
 unfold vu;rcases a0p e.1 with c|c
 ·rw[cT c];exact LM f.p ⟨g,lB h⟩ b (FT a c)
 ·rw[cF c];exact b
def LN {s:List aI×List aI} (g:ge d s) (h:jR s.1) (i:jR s.2) {a:m7} (f:rR d a):jR (bM d s a).1/\jR (bM d s a).2:=by
 unfold bM;rcases a0p a.1 with c|c
 ·rw[cT c];exact⟨zc g.a h f.t f.l f.e,i⟩
 ·rw[cF c];exact⟨h,zc g.b i f.t f.l f.e⟩
def BM {d:aE}:∀ {l:List m7} {s:List aI×List aI},ge d s->jR s.1->jR s.2->(∀a∈l,rR d a)->jR (l.foldl (bM d) s).1/\jR (l.foldl (bM d) s).2
 |[],s,_,h1,h2,_=>⟨h1,h2⟩
 |a::l,s,hs,h1,h2,ha=>by
  have:=LN hs h1 h2 (ha a (by simp));exact BM (l:=l) (pt hs (ha a (by simp))) this.1 this.2 (λx b=>ha x (by simp[b]))
def Il (b:aO d=true) {n:bA} (h:bt d n=true) (at_:Int) (c:∀p∈l,fP d p):jR (iV d n at_ l).1/\jR (iV d n at_ l).2:=BM (pw d) (λp a=>by cases a) (λp a=>by cases a) (g5 b h at_ c).1
def FU (a:fG p=true) {n:Nat} (c:n<p.2.2.2.1.length) (h:∀q∈l,fP (au p) q):∀e∈(jQ (au p) (p.2.2.2.1.getD n (0,0,[],[],0,0,())) (n:Int) ((cz p.2.2.2.1).getD n 0) l).1,dn (au p) e.2.1=true/\0<e.2.1.length:=by
 obtain⟨k,i,d,_⟩:=eE a;have j:=qF a c h;have f:=Il k (d _ (a0n c)) (n:Int) h;rw[bh c]at j⊢;intro e he;obtain⟨m,o,_,_⟩:=j.e e he;have b:jR e.2.1/\0<e.2.1.length:=by
  unfold jQ at he;obtain⟨S,r⟩:∃S,S=iV (au p) p.2.2.2.1[n] (n:Int) l:=⟨_,rfl⟩;rw[<-r]at he f;rcases a0p (decide (S.1.length>100)||decide (S.2.length>100))with hc|hc
  ·rw[cT hc]at he;cases he
  ·rw[cF hc]at he
   unfold nc at he;simp only at he;rcases a0k.1 he with he|he
   ·split at he
    ·rename_i g
     rw[a0x.1 he];exact⟨f.1,g⟩
    ·cases he
   ·split at he
    ·rename_i g
     rw[a0x.1 he];exact⟨f.2,g⟩
    ·cases he
 exact⟨NU m o b.1,b.2⟩
def Aw {at_:Int} (c:LJ l):∀e∈(eR p at_ l).1,dn (au p) e.2.1=true/\0<e.2.1.length:=by
 unfold eR;rcases a0p (fG p&& (decide (0<=at_/\at_<=(p.2.2.2.1.length:Int)-1)&& dn (au p) l))with h|h
 ·rw[cT h]
  simp only[a0e,a0v]at h;obtain⟨a,d,b⟩:=h;obtain⟨n,f⟩:∃n:Nat,at_=n:=⟨at_.toNat,by omega⟩;subst f;rw[a0i];exact FU a (by omega) (nd b c).1.p
 ·rw[cF h]
  exactλe g=>by cases g
structure bF (r:List Int×Int×Unit):Prop where
 lo:0<=r.2.1
 hi:r.2.1<=r.1.length
 len:r.1.length<=140737488351232
 byte:∀x∈r.1,0<=x/\x<=255
def Pf {a:List Int} (b:a.length<=140737488351232) (c:∀x∈a,0<=x/\x<=255):bF (a,0,()):=⟨by simp,by simp,b,c⟩
def vR (k:Nat) (h:bF r):∃v c,zO k (r,())=some ((v,()),(c,()))/\(0<=v/\v<=255)/\bF c/\c.1=r.1:=by
 obtain⟨b,p,⟨⟩⟩:=r;obtain⟨d,g,e,a⟩:=h;simp only at d g e a;unfold zO;by_cases i:p>=(b.length:Int)
 ·refine⟨0,(b,p,()),?_,by omega,⟨d,g,e,a⟩,rfl⟩
  simp only[ap,a0f i]
 ·have w1:wrap .i64 (p+1)=p+1:=aj (by omega) (by omega)
  have j:wrap .i64 (p+1-1)=p:=by rw[aj (by omega) (by omega)];omega
  have f:p.toNat<b.length:=by omega
  obtain⟨l,m⟩:=a b[p.toNat] (a0n _);refine⟨b[p.toNat],(b,p+1,()),?_,⟨l,m⟩,⟨by simp;omega,by simp;omega,e,a⟩,rfl⟩;have n:wrap .i64 b[p.toNat]=b[p.toNat]:=aj (by omega) (by omega);simp only[ap,a0d i,w1,j,a0f d,a0a f,ac,n]
def Dv {a n:Int} (b:0<=a:=by omega) (c:1<=n:=by omega):0<=a.tmod n/\a.tmod n<n:=by
 rw[a7a b];exact⟨Int.emod_nonneg _ (by omega),Int.emod_lt_of_pos _ (by omega)⟩
def rW (k:Nat) (h:bF r) (n:Int):∃v c,z6 k (r,n,())=some ((v,()),(c,(),()))/\0<=v/\v<=65535/\(1<=n->v<n)/\bF c/\c.1=r.1:=by
 obtain⟨b,p,⟨⟩⟩:=r;unfold z6;by_cases e:n<=1
 ·exact⟨0,(b,p,()),by simp only[ap,a0f e],by omega,by omega,by omega,h,rfl⟩
 ·by_cases t:n<=256
  ·obtain⟨v,c,f,u,g,i⟩:=vR k h
   obtain⟨j,l⟩:=Dv (a:=v) (n:=n) u.1;refine⟨v.tmod n,c,?_,j,by omega,λ_=>l,g,i⟩;have m:¬n=0:=by omega
   simp only[ap,a0d e,a0f t,f,ac,m,a8g,a0u,ai]
  ·obtain⟨v,c,f,u,g,i⟩:=vR k h
   obtain⟨d,w,x,y,o,q⟩:=vR k g;have w1:wrap .i64 (v*256)=v*256:=aj (by omega) (by omega);have z:wrap .i64 (v*256+d)=v*256+d:=aj (by omega) (by omega);obtain⟨j,l⟩:=Dv (a:=v*256+d) (n:=n);have A:(v*256+d).tmod n<=v*256+d:=by
    by_cases s:v*256+d<n
    ·rw[a7a (by omega),Int.emod_eq_of_lt (by omega) s];omega
    ·omega
   refine⟨(v*256+d).tmod n,w,?_,j,by omega,λ_=>l,o,by rw[q,i]⟩;have m:¬n=0:=by omega
   obtain⟨B,C,⟨⟩⟩:=c;simp only[ap,a0d e,a0d t,f,ac,x,m,a8g,a0u,ai,w1,z]
def Jc (k:Nat) (h:bF r) (n:Int):∃v a,l7 k (r,n,())=some ((v,()),(a,(),()))/\bF a/\a.1=r.1:=by
 obtain⟨b,p,⟨⟩⟩:=r;obtain⟨v,a,e,_,_,_,c,d⟩:=rW k h n;refine⟨v==wrap .i64 (n-1),a,?_,c,d⟩;unfold l7;simp only[e,ac]
def rX (k:Nat):(d:Nat)->(f:Nat)-> {r:List Int×Int×Unit}->bF r->(x i:Int)->0<=x->x<18446744073709551616->i+d=8->0<=i->∃v a,aH (IK.l0 k) (d+1+f) (r,x,i,())=some ((v,()),(a,()))/\(0<=v/\v<18446744073709551616)/\bF a/\a.1=r.1
 |0,f,r,h,x,i,h0,h1,hi,_=>by
  obtain⟨b,p,⟨⟩⟩:=r;refine⟨x,(b,p,()),?_,⟨h0,h1⟩,h,rfl⟩;have:¬(i<8):=by omega
  rw[show 0+1+f=f+1 by omega,aD];simp only[IK.l0,ap,a0d this]
 |d+1,f,r,h,x,i,h0,h1,hi,hi0=>by
  obtain⟨b,p,⟨⟩⟩:=r;obtain⟨v,a,e,A,l,m⟩:=vR k h;have c:i<8:=by omega
  have n:(0:Int)<=8:=by omega
  have o:∀z:Int,0<=wrap .u64 z/\wrap .u64 z<18446744073709551616:=by
   intro z;simp[wrap,IntKind.bits,IntKind.signed];omega
  obtain⟨w1,q⟩:=o (((BitVec.ofInt 64 (wrap .u64 (x*2^(min (8:Int).toNat 64)))|||BitVec.ofInt 64 (wrap .u64 v)).toNat:Int));obtain⟨u,s,t,w,g,j⟩:=rX k d f l _ (i+1) w1 q (by omega) (by omega);refine⟨u,s,?_,w,g,by rw[j,m]⟩;rw[show d+1+1+f=(d+1+f)+1 by omega,aD];obtain⟨B,C,⟨⟩⟩:=a;have y:wrap .i64 (i+1)=i+1:=aj (by omega) (by omega);simp only[IK.l0,ap,a0f c,a0f n,e,ac,y];exact t
def Jd (k:Nat) (g:9<=k) (h:bF r):∃v a,IK k (r,())=some ((v,()),(a,()))/\(0<=v/\v<18446744073709551616)/\bF a/\a.1=r.1:=by
 obtain⟨b,p,⟨⟩⟩:=r;obtain⟨v,a,e,c,d,f⟩:=rX k 8 (k-9) h 0 0 (by omega) (by omega) (by omega) (by omega);refine⟨v,a,?_,c,d,f⟩;rw[show 8+1+(k-9)=k by omega]at e;exact e
def Pg (k:Nat) (m:9<=k) (h:bF r) (E: -4611686018427387903<=lo) (j:lo<=hi) (F:hi<=4611686018427387903):∃v e,JV k (r,lo,hi,())=some ((v,()),(e,(),(),()))/\(lo<=v/\v<=hi)/\bF e/\e.1=r.1:=by
 obtain⟨b,p,⟨⟩⟩:=r;obtain⟨v,f,o,G,H,I,c,d⟩:=rW k h 8;unfold JV;simp only[o,ac];by_cases l:v=0
 ·exact⟨lo,f,by simp[l],⟨by omega,j⟩,c,d⟩
 by_cases c1:v=1
 ·exact⟨hi,f,by simp[c1],⟨j,by omega⟩,c,d⟩
 obtain⟨u,q,s,J,g,i⟩:=Jd k m c;have w1:wrap .i64 (hi-lo)=hi-lo:=aj (by omega) (by omega);have t:wrap .i64 (hi-lo+1)=hi-lo+1:=aj (by omega) (by omega);have w:wrap .u64 (hi-lo+1)=hi-lo+1:=gW;have x:0<=u.fdiv (2^(min (1:Int).toNat 64)):=Int.fdiv_nonneg (by omega) (by decide);obtain⟨K,L⟩:=Dv (a:=u.fdiv (2^(min (1:Int).toNat 64))) (n:=hi-lo+1) x;have y:wrap .i64 ((u.fdiv (2^(min (1:Int).toNat 64))).tmod (hi-lo+1))=(u.fdiv (2^(min (1:Int).toNat 64))).tmod (hi-lo+1):=aj (by omega) (by omega);have z:wrap .i64 (lo+(u.fdiv (2^(min (1:Int).toNat 64))).tmod (hi-lo+1))=lo+(u.fdiv (2^(min (1:Int).toNat 64))).tmod (hi-lo+1):=aj (by omega) (by omega);refine⟨lo+(u.fdiv (2^(min (1:Int).toNat 64))).tmod (hi-lo+1),q,?_,by omega,g,by rw[i,d]⟩;have A:(v==0)=false:=by simpa using l
 have B:(v==1)=false:=by simpa using c1
 have n2:¬hi<lo:=by omega
 have C:(0:Int)<=1:=by omega
 have D:¬(hi-lo+1=0):=by omega
 obtain⟨M,N,⟨⟩⟩:=f;simp only[A,B,ah,ap,a0d n2,s,ac,a0f C,w1,t,w,y,z,D,a8g,a0u,ai]
def Qf (k:Nat) (m:9<=k) (h:bF r) (n: -4611686018427387903<=lo) (o:lo<=hi) (q:hi<=4611686018427387903):∃v j,zP k (r,lo,hi,())=some ((v,()),(j,(),(),()))/\(-9223372036854775808<=v/\v<=9223372036854775807)/\bF j/\j.1=r.1:=by
 obtain⟨b,p,⟨⟩⟩:=r;obtain⟨c,l,s,i,e⟩:=Jc k h 24;unfold zP;simp only[s,ac]
 cases c with
 |true=>
  obtain⟨v,f,g,z,A,t,a,d⟩:=rW k i 4;have B:=t (by omega);obtain⟨u,w,⟨⟩⟩:=l;have w1:wrap .i64 (lo-1)=lo-1:=aj (by omega) (by omega);have x:wrap .i64 (hi+1)=hi+1:=aj (by omega) (by omega);have y:v=0\/v=1\/v=2\/v=3:=by omega
  rw[w1,x];rcases y with rfl|rfl|rfl|rfl
  ·exact⟨lo-1,f,by simp[g],by omega,a,by rw[d];exact e⟩
  ·exact⟨hi+1,f,by simp[g],by omega,a,by rw[d];exact e⟩
  ·exact⟨-9223372036854775808,f,by simp[g],by omega,a,by rw[d];exact e⟩
  ·exact⟨9223372036854775807,f,by simp[g],by omega,a,by rw[d];exact e⟩
 |false=>
  obtain⟨v,f,g,C,a,d⟩:=Pg k m i n o q;obtain⟨u,w,⟨⟩⟩:=l;exact⟨v,f,by simp[g],by omega,a,by rw[d];exact e⟩
abbrev pF:Type:=List Int×Int×Unit
def Qg {a:List Int} (k:Nat) (b:a.length<=140737488351232) (c:∀x∈a,0<=x/\x<=255):aq (JT k (a,())) λy=>bF y.1.1:=by
 unfold JT;exact aq.ret (Pf b c)
def aQ (k:Nat) {r:pF} (h:bF r) (n:Int):aq (z6 k (r,n,())) λy=>(0<=y.1.1/\y.1.1<=65535/\(1<=n->y.1.1<n))/\bF y.2.1:=by
 obtain⟨v,f,e,a,b,c,d,_⟩:=rW k h n;exact⟨_,e,⟨a,b,c⟩,d⟩
def dW (k:Nat) {r:pF} (h:bF r) (n:Int):aq (l7 k (r,n,())) λy=>bF y.2.1:=by
 obtain⟨v,b,e,a,_⟩:=Jc k h n;exact⟨_,e,a⟩
def NV (k:Nat) (a:9<=k) {r:pF} (h:bF r):aq (IK k (r,())) λy=>(0<=y.1.1/\y.1.1<18446744073709551616)/\bF y.2.1:=by
 obtain⟨v,d,e,b,c,_⟩:=Jd k a h;exact⟨_,e,b,c⟩
def oX (k:Nat) (a:9<=k) {r:pF} (h:bF r) (b: -4611686018427387903<=lo:=by omega) (c:lo<=hi:=by omega) (d:hi<=4611686018427387903:=by omega):aq (zP k (r,lo,hi,())) λy=>xY y.1.1/\bF y.2.1:=by
 obtain⟨v,i,e,f,g,_⟩:=Qf k a h b c d;exact⟨_,e,f,g⟩
def PD (k:Nat) (i:9<=k) {r:pF} (h:bF r):aq (Ha k (r,())) λy=>xY y.1.1/\bF y.2.1:=by
 obtain⟨b,p,⟨⟩⟩:=r;unfold Ha;refine aq.bd (aQ k h 6) λB d=>aq.br (λ_=> ?_) λ_=>aq.br (λ_=> ?_) λ_=>aq.br (λ_=> ?_) λ_=> ?_
 ·refine aq.bd (aQ k d.2 10) λC e=> ?_
  have m:=e.1.2.2 (by omega);have f:=e.1.1;refine aq.chk (by simp only[a0h,a0g];omega) (aq.get (by simp only[a0h,a0g];omega) λx o _=>aq.ret ⟨?_,e.2⟩);simp only[a1j,a3m,a5y]at o;simp only[xY];omega
 ·refine aq.bd (NV k i d.2) λD a=>aq.ret ⟨fV _,a.2⟩
 ·refine aq.bd (NV k i d.2) λj s=>aq.bd (aQ k s.2 60) λc g=> ?_
  have m:=g.1.2.2 (by omega);have f:=g.1.1;have w:wrap .u64 c.1.1=c.1.1:=gW f;rw[w];refine aq.chk f (aq.ret ⟨?_,g.2⟩);obtain⟨t,f1⟩:=fV j.1.1
  generalize wrap .i64 j.1.1=z at t f1
  have u:(1:Int)<=2^(min c.1.1.toNat 64):=by
   have:=Nat.one_le_two_pow (n:=min c.1.1.toNat 64)
   exact_mod_cast this
  generalize (2:Int)^(min c.1.1.toNat 64)=q at u
  simp only[xY];rw[a6z _ (by omega)];have l:=Int.natAbs_ediv_le_natAbs z q;by_cases v:0<=z
  ·have a:=Int.ediv_nonneg v (show 0<=q by omega)
   generalize z/q=y at l a
   omega
  ·have a:=Int.ediv_neg_of_neg_of_pos (show z<0 by omega) (show 0<q by omega)
   generalize z/q=y at l a
   omega
 ·refine aq.bd (aQ k d.2 41) λE A=>aq.ret ⟨fV _,A.2⟩
structure tI (d:aE):Prop where
 s:dG d
 n0:d.1.length<=5
 n1:d.2.1.length<=3
 n2:d.2.2.1.length<=1
def Dw (a b:eN) (d:b=[[98],[99],[102]]) (e:a=[[120],[121],[105],[110],[107]]) (i j:Nat) (c:List pB) (m:c.length<=1) (n:∀x∈c,x.1.length<=1048576):tI (aM a 0 i,aM b 0 j,c,()):=by
 have g:=(jb a 0 i).2;have h:=(jb b 0 j).2;have k:∀x∈aM a 0 i,x.length<=1048576:=λx f=>by
  have:=kc f;rw[e]at this;simp only[a1j,a3m,a5y]at this;rcases this with rfl|rfl|rfl|rfl|rfl<;>decide
 have l:∀x∈aM b 0 j,x.length<=1048576:=λx f=>by
  have:=kc f;rw[d]at this;simp only[a1j,a3m,a5y]at this;rcases this with rfl|rfl|rfl<;>decide
 rw[e]at g k;rw[d]at h l;rw[e,d];simp only[a0h,a0g]at g h;exact⟨⟨by simp only;omega,k,by simp only;omega,l,by simp only;omega,n⟩,by simp only;omega,by simp only;omega,m⟩
def Qh (k:Nat) (u:9<=k) {r:pF} (h:bF r):aq (JU k (r,())) λy=>tI y.1.1/\bF y.2.1:=by
 obtain⟨b,p,⟨⟩⟩:=r;unfold JU;refine aq.bd (aQ k h 4) λa g=> ?_
 obtain⟨⟨v,_,a1⟩,i⟩:=g;have w:=a1 (by omega);have w1:wrap .i64 (1+a.1.1)=1+a.1.1:=aj (by omega) (by omega);rw[w1];refine aq.chk (by simp only[a0h,a0g];omega) (aq.bd (aQ k i 2) λc j=> ?_);obtain⟨⟨x,_,l⟩,m⟩:=j;have z:=l (by omega);have n:wrap .i64 (1+c.1.1)=1+c.1.1:=aj (by omega) (by omega);rw[n];refine aq.chk (by simp only[a0h,a0g];omega) (aq.bd (dW k m 3) λA d=>aq.br (λ_=> ?_) λ_=> ?_)
 ·refine aq.bd (aQ k d 4) λB o=> ?_
  obtain⟨⟨C,_,c1⟩,q⟩:=o;have c2:=c1 (by omega);refine aq.chk (by simp only[a0h,a0g];omega) (aq.bd (dW k q 2) λD e=>aq.br (λ_=> ?_) λ_=> ?_)
  ·refine aq.bd (aQ k e 6) λE s=>aq.ret ⟨Dw _ _ rfl rfl _ _ _ (by simp) (by simp),s.2⟩
  ·exact aq.ret ⟨Dw _ _ rfl rfl _ _ _ (by simp) (by simp),e⟩
 ·refine aq.bd (dW k d 2) λF f=>aq.br (λ_=> ?_) λ_=> ?_
  ·refine aq.bd (aQ k f 6) λG t=>aq.ret ⟨Dw _ _ rfl rfl _ _ _ (by simp) (by simp),t.2⟩
  ·exact aq.ret ⟨Dw _ _ rfl rfl _ _ _ (by simp) (by simp),f⟩
def eF {α:Type} {P:α->Prop} {l:List α} {x:α} (b:∀a∈l,P a) (c:P x):∀a∈l++[x],P a:=by
 intro a d;rcases a0k.1 d with h|h
 ·exact b a h
 ·rw[a0x.1 h];exact c
def px {α:Type} {P:α->Prop} {l:List α} {x:α} (b:∀a∈l,P a) (c:P x):∀a∈l.set i x,P a:=by
 intro a d;rcases a2s d with h|h
 ·exact b a h
 ·rw[h];exact c
open Go.Lib (join join_nil join_one join_cons joinTail joinTail_take_succ)
end Go.Pev.F
namespace Go.Pev.F
open Go.Lib (decDigits itoa)
end Go.Pev.F
namespace Go.Pev.F
open Go.Lib (itoa join)
def Rv (a:bq):List UInt8:=(itoa a.1++[46,46])++itoa a.2.1
def eM (a:bq):Prop:=(-9223372036854775808<=a.1/\a.1<=9223372036854775807)/\(-9223372036854775808<=a.2.1/\a.2.1<=9223372036854775807)
def Qi (p:List UInt8×List UInt8):eN:=[p.1,p.2]
def zero (d:aE) (e:bc):List (List UInt8×List UInt8):=d.1.zip (e.2.1.map Rv)
structure Rw (d:aE) (e:bc):Prop where
 l0:d.1.length<=5
 l2:d.2.2.1.length<=2
 e1:e.2.1.length=d.1.length
 e2:e.2.2.1.length=d.2.2.1.length
 f1:∀a∈e.2.1,eM a
 f2:∀a∈e.2.2.1,eM a
end Go.Pev.F
section
namespace Go.Pev.F
variable {r:pF} {d:aE} {n m k:Nat} {l:List aI} {e a:bc} {deep:Int} {p:aI} {α:Type}
def FV (k:Nat) (a b:Int):aq (xk k (a,b,())) λy=>xY y.1.1:=by
 unfold xk;refine aq.bind (P:=λ_=>True) (aq.dec (λ_=>aq.ret trivial) λ_=>aq.ret trivial) λc _=>aq.br (λ_=>aq.ret (by simp[xY])) λ_=> ?_
 refine aq.bind (P:=λ_=>True) (aq.dec (λ_=>aq.ret trivial) λ_=>aq.ret trivial) λd _=>aq.br (λ_=>aq.ret (by simp[xY])) λ_=> ?_
 exact aq.ret (fV _)
def Rf (k:Nat) (n:9<=k) (h:bF r):aq (KD k (r,())) λy=>eM y.1.1/\bF y.2.1:=by
 obtain⟨b,p,⟨⟩⟩:=r;unfold KD;refine aq.bd (PD k n h) λA d=>aq.bd (aQ k d.2 4) λB f=> ?_
 have c:∀(a b:Int) (r:pF),xY a->xY b->bF r->aq (some (((a,b,()),()),(r,()))) λy:kX×pF×Unit=>eM y.1.1/\bF y.2.1:=λa b r q s t=>aq.ret ⟨⟨q,s⟩,t⟩
 refine aq.br (λ_=> ?_) λ_=>aq.br (λ_=>aq.br (λ_=> ?_) λ_=> ?_) λ_=>aq.br (λ_=> ?_) λ_=> ?_
 ·refine aq.bd (PD k n f.2) λC i=>aq.dec (λ_=>aq.bd (dW k i.2 12) λD o=>aq.br (λ_=> ?_) λ_=> ?_) λ_=> ?_
  ·exact c _ _ _ i.1 d.1 o
  ·exact c _ _ _ d.1 i.1 o
  ·exact c _ _ _ d.1 i.1 i.2
 ·refine aq.bd (aQ k f.2 30) λu e=>aq.bd (FV k _ _) λv g=>aq.dec (λ_=>aq.dec (λ_=>aq.bd (dW k e.2 12) λw j=>aq.br (λ_=> ?_) λ_=> ?_) λ_=> ?_) λ_=>aq.dec (λ_=>aq.bd (dW k e.2 12) λx l=>aq.br (λ_=> ?_) λ_=> ?_) λ_=> ?_
  ·exact c _ _ _ d.1 d.1 j
  ·exact c _ _ _ d.1 d.1 j
  ·exact c _ _ _ d.1 d.1 e.2
  ·exact c _ _ _ g d.1 l
  ·exact c _ _ _ d.1 g l
  ·exact c _ _ _ d.1 g e.2
 ·refine aq.dec (λ_=>aq.bd (dW k f.2 12) λz m=>aq.br (λ_=> ?_) λ_=> ?_) λ_=> ?_
  ·exact c _ _ _ d.1 d.1 m
  ·exact c _ _ _ d.1 d.1 m
  ·exact c _ _ _ d.1 d.1 f.2
 ·refine aq.bd (aQ k f.2 30) λu e=>aq.bd (FV k _ _) λv g=>aq.dec (λ_=>aq.dec (λ_=>aq.bd (dW k e.2 12) λw j=>aq.br (λ_=> ?_) λ_=> ?_) λ_=> ?_) λ_=>aq.dec (λ_=>aq.bd (dW k e.2 12) λx l=>aq.br (λ_=> ?_) λ_=> ?_) λ_=> ?_
  ·exact c _ _ _ d.1 d.1 j
  ·exact c _ _ _ d.1 d.1 j
  ·exact c _ _ _ d.1 d.1 e.2
  ·exact c _ _ _ g d.1 l
  ·exact c _ _ _ d.1 g l
  ·exact c _ _ _ d.1 g e.2
 ·refine aq.dec (λ_=>aq.bd (dW k f.2 12) λz m=>aq.br (λ_=> ?_) λ_=> ?_) λ_=> ?_
  ·exact c _ _ _ d.1 d.1 m
  ·exact c _ _ _ d.1 d.1 m
  ·exact c _ _ _ d.1 d.1 f.2
def Je (k:Nat) (d:9<=k) (h:bF r):aq (Hw k (r,())) λy=>eM y.1.1/\bF y.2.1:=by
 obtain⟨b,p,⟨⟩⟩:=r;unfold Hw;refine aq.bd (dW k h 6) λl c=>aq.br (λ_=> ?_) λ_=> ?_
 ·refine aq.bd (Rf k d c) λm a=>aq.ret ⟨⟨?_,?_⟩,a.2⟩
  ·obtain⟨⟨a1,e⟩,f,g⟩:=a.1
   dsimp only;split<;>omega
  ·obtain⟨⟨a1,e⟩,f,g⟩:=a.1
   dsimp only;split<;>omega
 ·exact aq.bd (aQ k c 20) λn i=>aq.bd (aQ k i.2 9) λo j=>aq.ret ⟨⟨fV _,fV _⟩,j.2⟩
structure zd (n m:Nat) (e:bc):Prop where
 s:(e.1=true/\e.2.1.length=n/\e.2.2.1.length=m)\/(e.1=false/\e.2.1.length=0/\e.2.2.1.length=0)
 f1:∀a∈e.2.1,eM a
 f2:∀a∈e.2.2.1,eM a
def rY (n m:Nat):zd n m (false,[],[],()):=⟨.inr ⟨rfl,rfl,rfl⟩,by simp,by simp⟩
abbrev Jf:Type:=pF×aE×bc×bc×Int×Unit
def PE (d:aE) (x:Jf):Prop:=bF x.1/\x.2.1=d/\x.2.2.2.1.1=true/\x.2.2.2.1.2.2.1=[]/\(x.2.2.2.1.2.1.length:Int)=x.2.2.2.2.1/\x.2.2.2.2.1<=d.1.length/\(∀a∈x.2.2.2.1.2.1,eM a)
def PF (d:aE) (x:Jf):Prop:=bF x.1/\x.2.1=d/\x.2.2.2.1.1=true/\x.2.2.2.1.2.1.length=d.1.length/\(∀a∈x.2.2.2.1.2.1,eM a)/\(x.2.2.2.1.2.2.1.length:Int)=x.2.2.2.2.1/\x.2.2.2.2.1<=d.2.2.1.length/\(∀a∈x.2.2.2.1.2.2.1,eM a)
def NW (k:Nat) (l:64<=k) (g:tI d):∀(f:Nat) (x:Jf),PF d x->((d.2.2.1.length:Int)-x.2.2.2.2.1).toNat<f->aq (aH (rm.l2 k) f x) λy=>zd d.1.length d.2.2.1.length y.1.1/\bF y.2.1:=by
 refine aq.loop (PF d) (λx=>((d.2.2.1.length:Int)-x.2.2.2.2.1).toNat) ?_
 have n2:=g.n2
 rintro G ⟨⟨b,p,⟨⟩⟩,⟨m,n,o,⟨⟩⟩,⟨q,r,s,⟨⟩⟩,⟨t,u,v,⟨⟩⟩,i,⟨⟩⟩ ⟨c,rfl,a,l1,f1,l2,h,f2⟩ hG
 simp only at a l1 f1 l2 h f2 n2;simp only[rm.l2];refine aq.dec (λj=>aq.bd (Je k (by omega) c) λz e=> ?_) λj=> ?_
 ·have w:wrap .i64 (i+1)=i+1:=aj (by omega) (by omega)
  rw[w];refine aq.chk (by simp only[a0h,a0g,ag];omega) (hG _ ⟨e.2,rfl,a,l1,f1,?_,?_,eF f2 e.1⟩ ?_)
  ·simp only[a0j,a0h,a0g];omega
  ·simp only;omega
  ·simp only;omega
 ·exact aq.ret ⟨⟨.inl ⟨a,l1,by simp only;omega⟩,f1,f2⟩,c⟩
def NX (k:Nat) (h:64<=k) (a:tI d):∀(f:Nat) (x:Jf),PE d x->((d.1.length:Int)-x.2.2.2.2.1).toNat<f->aq (aH (rm.l0 k) f x) λy=>zd d.1.length d.2.2.1.length y.1.1/\bF y.2.1:=by
 refine aq.loop (PE d) (λx=>((d.1.length:Int)-x.2.2.2.2.1).toNat) ?_
 have j:=a.n0;have n2:=a.n2
 rintro G ⟨⟨b,p,⟨⟩⟩,⟨n,o,q,⟨⟩⟩,⟨r,s,t,⟨⟩⟩,⟨u,v,z,⟨⟩⟩,i,⟨⟩⟩ ⟨e,rfl,c,l2,l1,l,f1⟩ hG
 simp only at c l1 f1 l2 l j n2;simp only[rm.l0];refine aq.dec (λm=>aq.bd (Je k (by omega) e) λA g=> ?_) λm=> ?_
 ·have w:wrap .i64 (i+1)=i+1:=aj (by omega) (by omega)
  rw[w];refine aq.chk (by simp only[a0h,a0g,ag];omega) (hG _ ⟨g.2,rfl,c,l2,?_,?_,eF f1 g.1⟩ ?_)
  ·simp only[a0j,a0h,a0g];omega
  ·simp only;omega
  ·simp only;omega
 ·refine NW k h a _ _ ⟨e,rfl,c,by simp only;omega,f1,by simp only[l2,a0g];rfl,by simp only;omega,by simp only[l2];simp⟩ (by simp only;omega)
def QQ (k:Nat) (e:64<=k) (h:bF r) (a:tI d):aq (rm k (r,d,())) λy=>zd d.1.length d.2.2.1.length y.1.1/\bF y.2.1:=by
 obtain⟨b,p,⟨⟩⟩:=r;have f:=a.n0;unfold rm;refine aq.bd (dW k h 16) λg c=>aq.br (λ_=>aq.ret ⟨rY _ _,c⟩) λ_=> ?_
 exact NX k e a _ _ ⟨c,rfl,rfl,rfl,rfl,by simp only;omega,by simp⟩ (by simp only;omega)
def Dx (k:Nat) (b:n<=100) (c:m<=100) (a:zd n m e):aq (CM k (e,())) λy=>zd n m y.1.1:=by
 unfold CM;have d:e.2.1.length<=100:=by rcases a.s with h|h<;>omega
 have f:e.2.2.1.length<=100:=by rcases a.s with h|h<;>omega
 exact aq.chk (by simp only[a0g,ag];omega) (aq.chk (by simp only[a0g,ag];omega) (aq.ret ⟨by simp only[a1s];exact a.s,by simp only[a1s];exact a.f1,by simp only[a1s];exact a.f2⟩))
abbrev PG:Type:=pF×List cG×Int×Unit
def QR (x:PG):Prop:=bF x.1/\(x.2.1.length:Int)+x.2.2.1<=3/\0<=x.2.2.1
def LO (k:Nat) (r:64<=k):∀(f:Nat) (x:PG),QR x->x.2.2.1.toNat<f->aq (aH (vh.l0 k) f x) λy=>y.1.1.length<=1048576/\bF y.2.1:=by
 refine aq.loop QR (λx=>x.2.2.1.toNat) ?_
 rintro G ⟨⟨b,p,⟨⟩⟩,h,i,⟨⟩⟩ ⟨g,j,a⟩ hG
 simp only at j a;simp only[vh.l0];refine aq.dec (λl=>aq.bd (aQ k g 4) λs m=>aq.bd (aQ k m.2 3) λt n=> ?_) λl=>aq.bd (aQ k g 40) λu c=>aq.br (λ_=> ?_) λ_=>aq.br (λ_=> ?_) λ_=> ?_
 ·have w:wrap .i64 (i-1)=i-1:=aj (by omega) (by omega)
  rw[w];refine aq.chk (by simp only[a0h,a0g,ag];omega) (hG _ ⟨n.2,?_,?_⟩ ?_)
  ·simp only[a0j,a0h,a0g];omega
  ·simp only;omega
  ·simp only;omega
 ·refine aq.bd (oX k (by omega) c.2) λo d=>aq.bd (oX k (by omega) d.2) λq e=> ?_
  refine aq.chk (by simp only[a0h,a0g,ag];omega) (aq.ret ⟨?_,e.2⟩);simp only[a0j,a0h,a0g];omega
 ·refine aq.bd (oX k (by omega) c.2) λo d=>aq.bd (oX k (by omega) d.2) λq e=> ?_
  exact aq.ret ⟨by simp only[a0h,a0g];omega,e.2⟩
 ·exact aq.ret ⟨by simp only;omega,c.2⟩
def Jg (k:Nat) (c:64<=k) (h:bF r):aq (vh k (r,())) λy=>y.1.1.length<=1048576/\bF y.2.1:=by
 obtain⟨b,p,⟨⟩⟩:=r;unfold vh;refine aq.bd (aQ k h 4) λe a=> ?_
 have f:=a.1.2.2 (by omega);have d:=a.1.1;exact LO k c _ _ ⟨a.2,by simp only[a0g];omega,d⟩ (by simp only;omega)
structure Oa (d:aE) (t:List bc):Prop where
 n:(t.length:Int)=2^d.2.1.length
 e:∀e∈t,zd d.1.length d.2.2.1.length e
def Qj (h:n<=3):(1:Int)<=2^n/\(2:Int)^n<=8:=by
 have:n=0\/n=1\/n=2\/n=3:=by omega
 rcases this with rfl|rfl|rfl|rfl<;>decide
def Oa.len {t:List bc} (a:tI d) (h:Oa d t):1<=t.length/\t.length<=8:=by
 have:=Qj a.n1;have:=h.n;omega
abbrev PH:Type:=pF×aE×List bc×Int×Unit
def QS (d:aE) (x:PH):Prop:=bF x.1/\x.2.1=d/\(x.2.2.1.length:Int)=x.2.2.2.1/\x.2.2.2.1<=2^d.2.1.length/\∀e∈x.2.2.1,zd d.1.length d.2.2.1.length e
def LP (k:Nat) (F:64<=k) (q:tI d):∀(f:Nat) (x:PH),QS d x->((2:Int)^d.2.1.length-x.2.2.2.1).toNat<f->aq (aH (zY.l0 k) f x) λy=>Oa d y.1.1/\bF y.2.1:=by
 refine aq.loop (QS d) (λx=>((2:Int)^d.2.1.length-x.2.2.2.1).toNat) ?_
 obtain⟨H,I⟩:=Qj q.n1;have J:=q.n0;have n2:=q.n2
 rintro G ⟨⟨b,p,⟨⟩⟩,⟨j,n,l,⟨⟩⟩,v,i,⟨⟩⟩ ⟨t,rfl,K,L,h⟩ hG
 simp only at K L h H I J n2;have z:tI (j,n,l,()):=q;have C:vi k ((j,n,l,()),())=_:=tw k (j,n,l,()) q.n1;simp only[zY.l0,C,ac];have w:i<=8->wrap .i64 (i+1)=i+1:=λ_=>aj (by omega) (by omega)
 have o:∀(r:pF) (c:List bc) (e:bc),bF r->c.length=v.length->(∀a∈c,zd j.length l.length a)->zd j.length l.length e->i<2^n.length->aq (br k (decide ((c.length+([e]:List bc).length)*56<=ag)) (G (r,(j,n,l,()),c++[e],wrap .i64 (i+1),())) none) λy=>Oa (j,n,l,()) y.1.1/\bF y.2.1:=by
  intro r c e t C A M g;rw[w (by omega)];refine aq.chk (by simp only[a0h,a0g,ag];omega) (hG _ ⟨t,rfl,?_,?_,eF A M⟩ ?_)
  ·simp only[a0j,a0h,a0g];omega
  ·simp only;omega
  ·simp only;omega
 refine aq.dec (λg=>aq.bd (QQ k F t z) λR u=>aq.dec (λN=>aq.bd (dW k u.2 2) λS D=>aq.br (λ_=> ?_) λ_=> ?_) λN=> ?_) λg=> ?_
 ·refine aq.bd (aQ k D i) λT B=> ?_
  have U:=B.1.2.2 (by omega);have O:=B.1.1;refine aq.chk ⟨O,by omega⟩ (aq.get (by omega) λV m _=>aq.bd (Dx k (by omega) (by omega) (h _ m)) λW P=>aq.bd (dW k B.2 6) λX E=>aq.br (λ_=> ?_) λ_=> ?_)
  ·exact o _ _ _ E (by simp) (px h (h _ m)) (rY _ _) g
  ·exact o _ _ _ E (by simp) (px h (h _ m)) P g
 ·refine aq.bd (dW k D 6) λQ s=>aq.br (λ_=> ?_) λ_=> ?_
  ·exact o _ _ _ s rfl h (rY _ _) g
  ·exact o _ _ _ s rfl h u.1 g
 ·refine aq.bd (dW k u.2 6) λQ s=>aq.br (λ_=> ?_) λ_=> ?_
  ·exact o _ _ _ s rfl h (rY _ _) g
  ·exact o _ _ _ s rfl h u.1 g
 ·exact aq.ret ⟨⟨by simp only;omega,h⟩,t⟩
def Ph (k:Nat) (c:64<=k) (h:bF r) (a:tI d):aq (zY k (r,d,())) λy=>Oa d y.1.1/\bF y.2.1:=by
 obtain⟨b,p,⟨⟩⟩:=r;obtain⟨e,f⟩:=Qj a.n1;unfold zY;exact LP k c a _ _ ⟨h,rfl,by simp,by simp only;omega,by simp⟩ (by simp only;omega)
def LQ {a b:bq} (c:eM a) (d:eM b):eM (if b.1<a.1 then b.1 else a.1,if b.2.1>a.2.1 then b.2.1 else a.2.1,()):=by
 obtain⟨a1,e⟩:=c;obtain⟨f,g⟩:=d;constructor
 ·dsimp only;split<;>omega
 ·dsimp only;split<;>omega
abbrev NY:Type:=bc×bc×List bq×List bq×List bq×Int×Unit
def PI (a:bc) (N:Nat) (x:NY):Prop:=x.1=a/\x.2.2.1.length=N/\x.2.2.2.1.length=N/\(x.2.2.2.2.1.length:Int)=x.2.2.2.2.2.1/\x.2.2.2.2.2.1<=N/\(∀v∈x.2.2.1,eM v)/\(∀v∈x.2.2.2.1,eM v)/\∀v∈x.2.2.2.2.1,eM v
def Rg (k:Nat) {l:List bq} (d:l.length=n+m) (e:l.length<=1000) (c:∀v∈l,eM v):aq (Aa k (l,(n:Int),())) λy=>zd n m y.1.1:=by
 unfold Aa;refine aq.chk (by omega) (aq.chk ?_ (aq.chk (by omega) (aq.chk ?_ (aq.ret ⟨.inl ⟨rfl,?_,?_⟩,?_,?_⟩))))
 ·simp only[a0g,a1h,ag];omega
 ·simp only[a0g,a2p,ag];omega
 ·simp only[a1s,a1h,a0i];omega
 ·simp only[a1s,a2p,a0i];omega
 ·exactλa b=>c a (a3h (by simpa using b))
 ·exactλa b=>c a (a5u (by simpa using b))
def NZ (k:Nat) (u:n<=100) (v:m<=100) (g:a.2.1.length=n):∀(f:Nat) (x:NY),PI a (n+m) x->(((n+m:Nat):Int)-x.2.2.2.2.2.1).toNat<f->aq (aH (vL.l0 k) f x) λy=>zd n m y.1.1:=by
 refine aq.loop (PI a (n+m)) (λx=>(((n+m:Nat):Int)-x.2.2.2.2.2.1).toNat) ?_
 rintro G ⟨⟨w,a1,z,⟨⟩⟩,⟨A,B,C,⟨⟩⟩,x,y,b,i,⟨⟩⟩ ⟨rfl,h,j,o,p,c,d,e⟩ hG
 simp only at h j o p c d e g;simp only[vL.l0];refine aq.dec (λq=> ?_) λq=> ?_
 ·refine aq.chk (by omega) (aq.get (by omega) λD r _=>aq.chk (by omega) (aq.get (by omega) λE s _=> ?_))
  unfold zZ;rw[ac,aj (n:=i+1) (by omega) (by omega)];refine aq.chk (by simp only[a0h,a0g,ag];omega) (hG _ ⟨rfl,h,j,?_,?_,c,d,eF e (LQ (c _ r) (d _ s))⟩ ?_)
  ·simp only[a0j,a0h,a0g];omega
  ·simp only;omega
  ·simp only;omega
 ·have:=Rg k (l:=b) (n:=n) (m:=m) (by omega) (by omega) e
  rw[g];exact aq.bd this λF t=>aq.ret t
def N0 (k:Nat) (d:n<=100) (f:m<=100) (a:zd n m e) (c:e.1=true):aq (Hx k (e,())) λy=>y.1.1.length=n+m/\∀v∈y.1.1,eM v:=by
 unfold Hx;have h:e.2.1.length=n/\e.2.2.1.length=m:=by
  rcases a.s with h|h
  ·exact h.2
  ·rw[c]at h;simp at h
 refine aq.chk (by simp only[a0g,ag];omega) (aq.chk (by simp only[a1s,ag];omega) (aq.ret ⟨?_,?_⟩))
 ·simp only[a1s,a0j];omega
 ·intro v b
  simp only[a1s,a0k]at b;exact b.elim (a.f1 v) (a.f2 v)
def Qk (k:Nat) (r:1000<=k) {b:bc} (c:n<=100) (d:m<=100) (e:zd n m a) (j:zd n m b):aq (vL k (a,b,())) λy=>zd n m y.1.1:=by
 unfold vL;refine aq.br (λ_=>aq.bd (Dx k c d j) λt f=>aq.ret f) λf=>aq.br (λ_=>aq.bd (Dx k c d e) λu g=>aq.ret g) λg=> ?_
 have l:a.1=true:=by simpa using f
 have q:b.1=true:=by simpa using g
 refine aq.bd (N0 k c d e l) λv o=>aq.bd (N0 k c d j q) λw p=> ?_
 have i:a.2.1.length=n:=by
  rcases e.s with h|h
  ·exact h.2.1
  ·rw[l]at h;simp at h
 exact NZ k c d (a:=a) i _ _ ⟨rfl,o.1,p.1,by simp,by simp only;omega,o.2,p.2,by simp⟩ (by simp only;omega)
abbrev Jh:Type:=List bc×List bc×List bc×Int×Unit
def N1 (n m N:Nat) (x:Jh):Prop:=x.1.length=N/\x.2.1.length=N/\(x.2.2.1.length:Int)=x.2.2.2.1/\x.2.2.2.1<=N/\(∀e∈x.1,zd n m e)/\(∀e∈x.2.1,zd n m e)/\∀e∈x.2.2.1,zd n m e
def LR (k:Nat) (l:1000<=k) {N:Nat} (o:n<=100) (p:m<=100) (z:N<=100):∀(f:Nat) (x:Jh),N1 n m N x->((N:Int)-x.2.2.2.1).toNat<f->aq (aH (Gb.l0 k) f x) λy=>y.1.1.length=N/\∀e∈y.1.1,zd n m e:=by
 refine aq.loop (N1 n m N) (λx=>((N:Int)-x.2.2.2.1).toNat) ?_
 rintro G ⟨a,b,q,i,⟨⟩⟩ ⟨h,j,r,s,c,d,g⟩ hG
 simp only at h j r s c d g;simp only[Gb.l0];refine aq.dec (λt=> ?_) λt=>aq.ret ⟨by simp only;omega,g⟩
 refine aq.chk (by omega) (aq.get (by omega) λA u _=>aq.chk (by omega) (aq.get (by omega) λB v _=>aq.bd (Qk k l o p (c _ u) (d _ v)) λC w=> ?_));rw[aj (n:=i+1) (by omega) (by omega)];refine aq.chk (by simp only[a0h,a0g,ag];omega) (hG _ ⟨h,j,?_,?_,c,d,eF g w⟩ ?_)
 ·simp only[a0j,a0h,a0g];omega
 ·simp only;omega
 ·simp only;omega
def Ji (k:Nat) (h:1000<=k) (c:tI d) {a b:List bc} (f:Oa d a) (g:Oa d b):aq (Gb k (a,b,())) λy=>Oa d y.1.1:=by
 have j:=c.n0;have n2:=c.n2;obtain⟨l1,l2⟩:=f.len c;have l:=f.n;have o:=g.n;unfold Gb;exact(LR k h (n:=d.1.length) (m:=d.2.2.1.length) (N:=a.length) (by omega) (by omega) (by omega) _ _ ⟨rfl,by simp only;omega,by simp,by simp only;omega,f.e,g.e,by simp⟩ (by simp only;omega)).mono λy i=>⟨by omega,i.2⟩
structure vv (d:aE) (p:aI):Prop where
 t:aZ p.1=true
 e:Oa d p.2.1
abbrev PJ:Type:=List aI×Bool×List Int×aI×List aI×Bool×Int×Unit
def QT (d:aE) (l:List aI) (p:aI) (x:PJ):Prop:=x.1=l/\x.2.1=false/\x.2.2.2.1=p/\0<=x.2.2.2.2.2.2.1/\x.2.2.2.2.2.2.1<=l.length/\(x.2.2.2.2.1.length:Int)<=x.2.2.2.2.2.2.1+1/\(x.2.2.2.2.2.1=false->(x.2.2.2.2.1.length:Int)<=x.2.2.2.2.2.2.1)/\∀q∈x.2.2.2.2.1,vv d q
def Pi (k:Nat) (R:4194304<k) (N:tI d) (S:l.length<=1000) (o:∀q∈l,vv d q) (T:vv d p):∀(f:Nat) (x:PJ),QT d l p x->((l.length:Int)-x.2.2.2.2.2.2.1).toNat<f->aq (aH (CN.l0 k) f x) λy=>y.1.1.length<=l.length+1/\∀q∈y.1.1,vv d q:=by
 refine aq.loop (QT d l p) (λx=>((l.length:Int)-x.2.2.2.2.2.2.1).toNat) ?_
 rintro G ⟨C,O,r,⟨v,Q,⟨⟩⟩,U,done,i,⟨⟩⟩ ⟨rfl,rfl,rfl,u,V,E,n,s⟩ hG
 simp only at u V E n s S;have m:vv d (v,Q,()):=T;have w:i<C.length->wrap .i64 (i+1)=i+1:=λh=>aj (by omega) (by omega)
 have D:∀(a:List aI) (q:aI) (b:Bool),(a.length:Int)<=i+1->(b=false->(a.length:Int)<=i)->(∀q∈a,vv d q)->vv d q->i<C.length->aq (br k (decide ((a.length+([q]:List aI).length)*48<=ag)) (G (C,false,r,(v,Q,()),a++[q],b,wrap .i64 (i+1),())) none) λy=>y.1.1.length<=C.length+1/\∀q∈y.1.1,vv d q:=by
  intro a q b h1 W X Y g;rw[w g];refine aq.chk (by simp only[a0h,a0g,ag];omega) (hG _ ⟨rfl,rfl,rfl,?_,?_,?_,?_,eF X Y⟩ ?_)
  ·simp only;omega
  ·simp only;omega
  ·simp only[a0j,a0h,a0g];omega
  ·intro h;have:=W h;simp only[a0j,a0h,a0g];omega
  ·simp only;omega
 simp only[CN.l0];refine aq.dec (λg=>aq.chk u (aq.get (by omega) λF H _=> ?_)) λg=> ?_
 ·have Z:IQ k (F.1,v,())=_:=qy k R F.1 v (o _ H).t m.t
  rw[Z,ac]
  generalize da F.1 v=c
  refine aq.bind (P:=λy=>y.1=true->done=false) (aq.dec (λ_=>aq.ret (by simp)) λ_=>aq.ret (by simp)) λj hj=>aq.br (λI=> ?_) λ_=> ?_
  ·have J:=hj I
   have K:=n J;refine aq.chk (by simp only[a0h,a0g,ag];omega) (aq.chk u (aq.get (by omega) λx4 z _=>aq.br (λ_=> ?_) λ_=> ?_))
   ·refine aq.chk u (aq.get (by omega) λx5 L _=>aq.bd (Ji k (by omega) N (o _ L).e m.e) λy6 h6=> ?_)
    rw[ah];refine D _ _ true ?_ (by simp) (eF s m) ⟨(o _ z).t,h6⟩ g
    simp only[a0j,a0h,a0g];omega
   ·refine D _ _ true ?_ (by simp) (eF s m) (o _ z) g
    simp only[a0j,a0h,a0g];omega
  ·refine aq.chk u (aq.get (by omega) λx9 A _=>aq.br (λ_=> ?_) λ_=> ?_)
   ·refine aq.chk u (aq.get (by omega) λR0 B _=>aq.bd (Ji k (by omega) N (o _ B).e m.e) λR1 M=> ?_)
    rw[ah];exact D _ _ true E (by simp) s ⟨(o _ A).t,M⟩ g
   ·exact D _ _ done E n s (o _ A) g
 ·refine aq.br (λhn=> ?_) λ_=>aq.ret ⟨by simp only;omega,s⟩
  have K:=n (by simpa using hn);refine aq.chk (by simp only[a0h,a0g,ag];omega) (aq.ret ⟨?_,eF s m⟩);simp only[a0j,a0h,a0g];omega
def QU (k:Nat) (a:4194304<k) (b:tI d) (c:l.length<=1000) (e:∀q∈l,vv d q) (f:vv d p):aq (CN k (l,p,false,[],())) λy=>y.1.1.length<=l.length+1/\∀q∈y.1.1,vv d q:=by
 unfold CN;exact Pi k a b c e f _ _ ⟨rfl,rfl,rfl,by simp,by simp,by simp,by simp,by simp⟩ (by simp only;omega)
abbrev N2:Type:=aI×aI×aI×Int×Unit
def PK (d:aE) (p:aI) (x:N2):Prop:=x.1=p/\x.2.2.1.1=p.1/\(x.2.2.1.2.1.length:Int)=x.2.2.2.1/\x.2.2.2.1<=p.2.1.length/\∀e∈x.2.2.1.2.1,zd d.1.length d.2.2.1.length e
def LS (k:Nat) (r:64<=k) (c:tI d) (b:vv d p):∀(f:Nat) (x:N2),PK d p x->((p.2.1.length:Int)-x.2.2.2.1).toNat<f->aq (aH (Hy.l0 k) f x) λy=>vv d y.1.1:=by
 have a:=b.e.len c;have s:=c.n0;have n2:=c.n2;refine aq.loop (PK d p) (λx=>((p.2.1.length:Int)-x.2.2.2.1).toNat) ?_
 rintro G ⟨⟨u,v,⟨⟩⟩,⟨w,z,⟨⟩⟩,⟨A,B,⟨⟩⟩,i,⟨⟩⟩ ⟨rfl,l,m,o,g⟩ hG
 simp only at l m o g a;subst l;simp only[Hy.l0];refine aq.dec (λh=>aq.chk (by omega) (aq.get (by omega) λC j _=>aq.bd (Dx k (by omega) (by omega) (b.e.e _ j)) λD q=> ?_)) λh=> ?_
 ·rw[aj (n:=i+1) (by omega) (by omega)]
  refine aq.chk (by simp only[a0h,a0g,ag];omega) (hG _ ⟨rfl,rfl,?_,?_,eF g q⟩ ?_)
  ·simp only[a0j,a0h,a0g];omega
  ·simp only;omega
  ·simp only;omega
 ·have:=b.e.n
  simp only at this;exact aq.ret ⟨b.t,by simp only;omega,g⟩
def Dy {t:List cG} (h:aZ t=true):t.length<=3:=by
 simp only[aZ,a0e,a0v]at h;exact h.1
def Pj (k:Nat) (f:64<=k) (b:tI d) (a:vv d p):aq (Hy k (p,())) λy=>vv d y.1.1:=by
 have g:=Dy a.t;have c:=a.e.len b;unfold Hy;refine aq.chk (by simp only[a0g,ag];omega) (LS k f b a _ _ ⟨rfl,by simp,by simp,by simp,by simp⟩ (by simp only;omega))
abbrev Jj:Type:=List aI×List aI×Int×Unit
def N3 (d:aE) (l:List aI) (x:Jj):Prop:=x.1=l/\(x.2.1.length:Int)=x.2.2.1/\x.2.2.1<=l.length/\∀q∈x.2.1,vv d q
def LU (k:Nat) (e:64<=k) (g:tI d) (m:l.length<=1000) (o:∀q∈l,vv d q):∀(f:Nat) (x:Jj),N3 d l x->((l.length:Int)-x.2.2.1).toNat<f->aq (aH (EO.l0 k) f x) λy=>y.1.1.length<=l.length/\∀q∈y.1.1,vv d q:=by
 refine aq.loop (N3 d l) (λx=>((l.length:Int)-x.2.2.1).toNat) ?_
 rintro G ⟨p,r,i,⟨⟩⟩ ⟨rfl,s,t,a⟩ hG
 simp only at s t a m;simp only[EO.l0];refine aq.bind (P:=λy=>y.1=true->i<p.length) (aq.dec (λh=>aq.ret λ_=>h) λ_=>aq.ret (by simp)) λj u=>aq.br (λb=> ?_) λ_=>aq.ret ⟨by simp only;omega,a⟩
 have v:=u b;refine aq.chk (by omega) (aq.get (by omega) λz c _=>aq.bd (Pj k e g (o _ c)) λA w=> ?_);rw[aj (n:=i+1) (by omega) (by omega)];refine aq.chk (by simp only[a0h,a0g,ag];omega) (hG _ ⟨rfl,?_,?_,eF a w⟩ ?_)
 ·simp only[a0j,a0h,a0g];omega
 ·simp only;omega
 ·simp only;omega
def Pk (k:Nat) (e:1064<=k) (a:tI d) (b:l.length<=1000) (c:∀q∈l,vv d q):aq (EO k (l,())) λy=>y.1.1.length<=l.length/\∀q∈y.1.1,vv d q:=by
 unfold EO;exact LU k (by omega) a b c _ _ ⟨rfl,by simp,by simp,by simp⟩ (by simp only;omega)
abbrev Jk:Type:=pF×aE×List aI×Int×Unit
def N4 (d:aE) (x:Jk):Prop:=bF x.1/\x.2.1=d/\0<=x.2.2.2.1/\(x.2.2.1.length:Int)+x.2.2.2.1<=3/\∀q∈x.2.2.1,vv d q
def LV (k:Nat) (g:4194304<k) (a:tI d):∀(f:Nat) (x:Jk),N4 d x->x.2.2.2.1.toNat<f->aq (aH (Ab.l0 k) f x) λy=>(y.1.1.length<=3/\∀q∈y.1.1,vv d q)/\bF y.2.1:=by
 refine aq.loop (N4 d) (λx=>x.2.2.2.1.toNat) ?_
 rintro G ⟨⟨b,p,⟨⟩⟩,⟨H,I,J,⟨⟩⟩,m,i,⟨⟩⟩ ⟨u,rfl,C,D,c⟩ hG
 simp only at C D c;simp only[Ab.l0];refine aq.dec (λn=>aq.bd (Jg k (by omega) u) λo E=>aq.bd (Ph k (by omega) E.2 a) λv e=> ?_) λn=> ?_
 ·have z:=e.1.len a
  have r:=kL k g o.1.1;have s:=By k g v.1.1 (by omega);have w:wrap .i64 (i-1)=i-1:=aj (by omega) (by omega);rw[r,ac,s,w];refine aq.bind (P:=λy=>y.1=true->aZ o.1.1=true) (aq.br (λh=> ?_) λ_=>aq.ret (by simp)) λj F=>aq.br (λt=> ?_) λ_=> ?_
  ·rw[ac];exact aq.ret λ_=>h
  ·refine aq.bd (QU k g a (l:=m) (p:=(o.1.1,v.1.1,())) (by omega) c ⟨F t,e.1⟩) λK A=>hG _ ⟨e.2,rfl,?_,?_,A.2⟩ ?_
   ·simp only;omega
   ·have:=A.1;simp only;omega
   ·simp only;omega
  ·refine hG _ ⟨e.2,rfl,?_,?_,c⟩ ?_
   ·simp only;omega
   ·simp only;omega
   ·simp only;omega
 ·refine aq.bd (Pk k (by omega) a (by omega) c) λL B=>aq.ret ⟨⟨?_,B.2⟩,u⟩
  have:=B.1;simp only;omega
def Pn (k:Nat) (e:4194304<k) (h:bF r) (f:tI d):aq (Ab k (r,d,())) λy=>(y.1.1.length<=3/\∀q∈y.1.1,vv d q)/\bF y.2.1:=by
 obtain⟨b,p,⟨⟩⟩:=r;unfold Ab;refine aq.bd (aQ k h 3) λc a=> ?_
 have g:=a.1.2.2 (by omega);have i:=a.1.1;have w:wrap .i64 (1+c.1.1)=1+c.1.1:=aj (by omega) (by omega);rw[w];exact LV k e f _ _ ⟨a.2,rfl,by simp only;omega,by simp only[a0g];omega,by simp⟩ (by simp only;omega)
structure ze (e:bc):Prop where
 n1:e.2.1.length<=1000
 n2:e.2.2.1.length<=1000
 f1:∀a∈e.2.1,eM a
 f2:∀a∈e.2.2.1,eM a
def zd.any (a:tI d) (h:zd d.1.length d.2.2.1.length e):ze e:=by
 have b:=a.n0;have n2:=a.n2;exact⟨by rcases h.s with h|h<;>omega,by rcases h.s with h|h<;>omega,h.f1,h.f2⟩
def ze.wf (h:ze e):QD.WF e:=by
 have d:=h.n1;have n2:=h.n2;have c:∀a,eM a->P4.WF a:=λa b=>⟨b.1,b.2,trivial⟩
 exact⟨trivial,⟨by omega,λa b=>c a (h.f1 a b)⟩,⟨by omega,λa b=>c a (h.f2 a b)⟩,trivial⟩
def LW (k:Nat) (h:bF r) (g:n<=500) (a:ze e) (d:e.2.1.length<=n) (f:e.2.2.1.length<=n):aq (KE k (r,e,())) λy=>(ze y.1.1/\y.1.1.2.1.length<=n+1/\y.1.1.2.2.1.length<=n+1)/\bF y.2.1:=by
 obtain⟨b,p,⟨⟩⟩:=r;obtain⟨i,j,l,⟨⟩⟩:=e;simp only at d f;unfold KE;refine aq.bd (aQ k h 24) λm c=>aq.br (λ_=> ?_) λ_=>aq.br (λ_=> ?_) λ_=>aq.br (λ_=>aq.dec (λo=> ?_) λ_=> ?_) λ_=> ?_
 ·exact aq.ret ⟨⟨⟨a.n1,a.n2,a.f1,a.f2⟩,by simp only;omega,by simp only;omega⟩,c.2⟩
 ·refine aq.chk (by simp only[a0h,a0g,ag];omega) (aq.ret ⟨⟨⟨?_,a.n2,eF a.f1 ⟨by simp,by simp⟩,a.f2⟩,?_,by simp only;omega⟩,c.2⟩)
  ·simp only[a0j,a0h,a0g];omega
  ·simp only[a0j,a0h,a0g];omega
 ·refine aq.chk (by omega) (aq.get (by omega) λx q _=>aq.ret ⟨⟨⟨?_,a.n2,px a.f1 ⟨by simp,by simp⟩,a.f2⟩,?_,by simp only;omega⟩,c.2⟩)
  ·simp only[a4s];omega
  ·simp only[a4s];omega
 ·exact aq.ret ⟨⟨⟨a.n1,a.n2,a.f1,a.f2⟩,by simp only;omega,by simp only;omega⟩,c.2⟩
 ·exact aq.ret ⟨⟨⟨a.n1,a.n2,a.f1,a.f2⟩,by simp only;omega,by simp only;omega⟩,c.2⟩
def FW (k:Nat) (h:bF r) (f:tI d) {t:List bc} (g:Oa d t):aq (KF k (r,t,())) λy=>(y.1.1.length<=9/\∀e∈y.1.1,ze e)/\bF y.2.1:=by
 obtain⟨b,p,⟨⟩⟩:=r;have l:=g.len f;have q:=f.n0;have n2:=f.n2;have c:∀e∈t,ze e:=λe h=>(g.e e h).any f
 unfold KF;refine aq.bd (aQ k h 24) λs i=>aq.br (λ_=> ?_) λ_=>aq.br (λ_=> ?_) λ_=>aq.br (λ_=> ?_) λ_=> ?_
 ·refine aq.chk (by omega) (aq.ret ⟨⟨?_,λe j=>c e (kc j)⟩,i.2⟩)
  have:=(jb t (1:Int).toNat ((t.length:Int).toNat-(1:Int).toNat)).2;simp only;omega
 ·refine aq.chk (by omega) (aq.get (by omega) λm a _=>aq.bd (LW k i.2 (n:=10) (by omega) (c _ a) ?_ ?_) λu o=>aq.chk (by omega) (aq.chk rfl (aq.ret ⟨⟨?_,px c o.1.1⟩,o.2⟩)))
  ·have:m.2.1.length<=10:=by rcases(g.e _ a).s with h|h<;>omega
   exact this
  ·have:m.2.2.1.length<=10:=by rcases(g.e _ a).s with h|h<;>omega
   exact this
  ·simp only[a4s];omega
 ·refine aq.chk (by simp only[a0h,a0g,ag];omega) (aq.ret ⟨⟨?_,eF c ⟨by simp,by simp,by simp,by simp⟩⟩,i.2⟩)
  simp only[a0j,a0h,a0g];omega
 ·exact aq.ret ⟨⟨by simp only;omega,c⟩,i.2⟩
structure FX (p:aI):Prop where
 t:p.1.length<=1048576
 n:p.2.1.length<=9
 e:∀e∈p.2.1,ze e
def FY (k:Nat) (s:64<=k) (h:bF r) (i:tI d) (z:l.length<=3) (o:∀q∈l,vv d q):aq (KG k (r,l,())) λy=>(y.1.1.length<=4/\∀q∈y.1.1,FX q)/\bF y.2.1:=by
 obtain⟨b,p,⟨⟩⟩:=r;have a:∀q∈l,FX q:=λq u=>by
  have h:=o q u;have v:=Dy h.t;have j:=h.e.len i;exact⟨by omega,by omega,λe w=>(h.e.e e w).any i⟩
 unfold KG;have x:aq (some ((l,()),((b,p,()),(),()))) λy:((List aI)×Unit)×pF×Unit×Unit=>(y.1.1.length<=4/\∀q∈y.1.1,FX q):=aq.ret ⟨by simp only;omega,a⟩
 refine aq.bd (aQ k h 24) λA c=>aq.br (λ_=> ?_) λ_=>aq.br (λ_=>aq.dec (λB=> ?_) λ_=> ?_) λ_=>aq.br (λ_=>aq.dec (λv=> ?_) λ_=> ?_) λ_=> ?_
 ·refine aq.bd (Jg k s c.2) λC j=>aq.chk (by simp only[a0h,a0g,ag];omega) (aq.ret ⟨⟨?_,eF a ⟨j.1,by simp,by simp⟩⟩,j.2⟩)
  simp only[a0j,a0h,a0g];omega
 ·refine aq.chk (by omega) (aq.get (by omega) λD f _=>aq.bd (FW k c.2 i (o _ f).e) λE m=>aq.chk (by omega) (aq.chk rfl (aq.ret ⟨⟨?_,px a ⟨(a _ f).t,m.1.1,m.1.2⟩⟩,m.2⟩)))
  simp only[a4s];omega
 ·exact aq.ret ⟨⟨by simp only;omega,a⟩,c.2⟩
 ·refine aq.chk (by omega) (aq.get (by omega) λF n _=>aq.chk (by omega) (aq.get (by omega) λG g _=>aq.ret ⟨⟨?_,px a ⟨(a _ n).t,(a _ g).n,(a _ g).e⟩⟩,c.2⟩))
  simp only[a4s];omega
 ·exact aq.ret ⟨⟨by simp only;omega,a⟩,c.2⟩
 ·exact aq.ret ⟨⟨by simp only;omega,a⟩,c.2⟩
structure Po (s:yl):Prop where
 n0:s.1.length<=1000
 n1:s.2.1.length<=1000
 n2:s.2.2.1.length<=1000
 m2:∀r∈s.2.2.1,r.length<=1000
 f0:∀x∈s.1,xY x
 f2:∀r∈s.2.2.1,∀x∈r,xY x
def Po.small {s:yl} (h:Po s):P5 s:=by
 have b:=h.n0;have c:=h.n1;have n2:=h.n2;exact⟨by omega,by omega,by omega,λr a=>by have:=h.m2 r a;omega⟩
def Po.wf {s:yl} (h:Po s):O0.WF s:=by
 have c:=h.n0;have d:=h.n1;have n2:=h.n2;exact⟨⟨by omega,λx a=>h.f0 x a⟩,⟨by omega,λx a=>trivial⟩,⟨by omega,λr b=>⟨by have:=h.m2 r b;omega,λx a=>h.f2 r b x a⟩⟩,trivial⟩
def FZ {α:Type} (a b:List α) (i:Int):Prop:=0<=i/\i<=a.length/\a.take i.toNat=b.take i.toNat
def Jl (a b:List α):FZ a b 0:=⟨by omega,by omega,rfl⟩
def BN {a b:List α} (h:a.length=b.length) {i:Int} (d:FZ a b i) (e:¬i<(a.length:Int)):a=b:=by
 obtain⟨f,g,c⟩:=d;rw[a3i (by omega),a3i (by omega)]at c;exact c
def zf {a b:List α} {i:Int} (c:FZ a b i) (d:i<(a.length:Int)) {x y:α} (f:a[i.toNat]?=some x) (g:b[i.toNat]?=some y) (e:x=y):FZ a b (i+1):=by
 obtain⟨o,p,h⟩:=c;refine⟨by omega,by omega,?_⟩;have j:(i+1).toNat=i.toNat+1:=by omega
 obtain⟨k,l⟩:=a0r.1 f;obtain⟨m,n⟩:=a0r.1 g;rw[j,<-a2t k,<-a2t m,h,l,n,e]
def F0 {a b:List α} {i:Nat} {x y:α} (d:a[i]?=some x) (c:b[i]?=some y) (e:x≠y):a≠b:=by
 rintro rfl
 rw[d]at c;exact e (a1e c)
abbrev Rh (α:Type):Type:=List α×List α×Int×Unit
def Rr {α:Type} (a b:List α) (x:Rh α):Prop:=x.1=a/\x.2.1=b/\FZ a b x.2.2.1
def BO (k:Nat) (p:2000<=k) {a b:List bq} (o:a.length<=1000):aq (Ag k (a,b,())) λy=>y.1.1=decide (a=b):=by
 unfold Ag;refine aq.br (λh=>aq.ret ?_) λh=> ?_
 ·have:a≠b:=by rintro rfl;simp at h
  simp[this]
 ·have g:a.length=b.length:=by
   simp only[a6d]at h;omega
  refine aq.loop (Rr a b) (λx=>((a.length:Int)-x.2.2.1).toNat) ?_ k _ ⟨rfl,rfl,Jl a b⟩ (by simp only;omega)
  rintro G ⟨q,r,i,⟨⟩⟩ ⟨rfl,rfl,d⟩ hG
  simp only at d o g;have j:=d.1;simp only[Ag.l0];refine aq.dec (λc=> ?_) λc=>aq.ret ?_
  ·refine aq.chk j (aq.get (by omega) λs _ l=>aq.chk j (aq.get (by omega) λt _ m=> ?_))
   rw[Li,aj (n:=i+1) (by omega) (by omega)];refine aq.br (λe=>aq.ret ?_) λf=>hG _ ⟨rfl,rfl,zf d c l m (by simpa using f)⟩ (by simp only;omega)
   have:=F0 l m (by simpa using e);simp[this]
  ·simp[BN g d c]
def LX (k:Nat) (d:2000<=k) {b:bc} (f:a.2.1.length<=1000) (g:a.2.2.1.length<=1000):aq (KS k (a,b,())) λy=>y.1.1=decide (a=b):=by
 unfold KS;refine aq.bind (P:=λy=>y.1=decide (a=b)) ?_ λj h=>aq.ret h
 rw[Nt];refine aq.br (λc=>aq.bd (BO k d f) λl e=>aq.br (λc1=>aq.bd (BO k d g) λm i=>aq.ret ?_) λc1=>aq.ret ?_) λc=>aq.ret ?_
 ·rw[c,<-e,c1,<-i];rfl
 ·rw[c,<-e,c1];rfl
 ·rw[c];rfl
def F3 (k:Nat) (r:2000<=k) {a b:List bc} (s:a.length<=1000) (g:∀e∈a,ze e):aq (Ah k (a,b,())) λy=>y.1.1=decide (a=b):=by
 unfold Ah;refine aq.br (λh=>aq.ret ?_) λh=> ?_
 ·have:a≠b:=by rintro rfl;simp at h
  simp[this]
 ·have m:a.length=b.length:=by
   simp only[a6d]at h;omega
  refine aq.loop (Rr a b) (λx=>((a.length:Int)-x.2.2.1).toNat) ?_ k _ ⟨rfl,rfl,Jl a b⟩ (by simp only;omega)
  rintro G ⟨u,v,i,⟨⟩⟩ ⟨rfl,rfl,f⟩ hG
  simp only at f s m g;have o:=f.1;simp only[Ah.l0];refine aq.dec (λc=> ?_) λc=>aq.ret ?_
  ·refine aq.chk o (aq.get (by omega) λw d p=>aq.chk o (aq.get (by omega) λz _ q=>aq.bd (LX k r (g _ d).n1 (g _ d).n2) λA t=> ?_))
   rw[aj (n:=i+1) (by omega) (by omega),t];refine aq.br (λj=>aq.ret ?_) λl=>hG _ ⟨rfl,rfl,zf f c p q (by simpa using l)⟩ (by simp only;omega)
   have:=F0 p q (by simpa using j);simp[this]
  ·simp[BN m f c]
abbrev Ri:Type:=pF×aE×Int×Unit
abbrev QV:Type:=(List cL×Unit)×(pF×Unit×Unit×Unit)
def Q3 (B:Nat) (y:QV):Prop:=y.1.1.length<=B/\bF y.2.1
def vw (h:n+m<=100000:=by omega):(n+m)*16<=ag:=by simp only[ag];omega
def zg (k:Nat) (R:Ri->Option QV) (h:bF r) (d:aE) (L: -100<=deep/\deep<=100) (B:Nat) (M:B<=1000) (w:0<deep->∀u,bF u->aq (R (u,d,deep-1,())) (Q3 B)):aq (mh.f k R (r,d,deep,())) (Q3 (2*B+1)):=by
 obtain⟨b,p,⟨⟩⟩:=r;have x:wrap .i64 (deep-1)=deep-1:=aj (by omega) (by omega);unfold mh.f;simp only[x];refine aq.bd (aQ k h 8) λN g=>aq.bind (P:=λ_=>True) (aq.dec (λ_=>aq.ret trivial) λ_=>aq.ret trivial) λO _=>aq.br (λ_=> ?_) λ_=> ?_
 ·exact aq.bd (aQ k g.2 _) λQ y=>aq.ret ⟨by simp,y.2⟩
 refine aq.bind (P:=λj=>j.1=false->0<deep) (aq.dec (λ_=>aq.ret (λh=>by simp at h)) λ_=>aq.ret (λh=>by have:=a7f h;omega)) λS z=>aq.br (λ_=> ?_) λA=> ?_
 ·refine aq.bd (aQ k g.2 12) λT C=>aq.bd (dW k C.2 20) λU v=>aq.br (λ_=> ?_) λ_=> ?_
  ·refine aq.bd (aQ k v 4) λV D=> ?_
   obtain⟨⟨W,_,a1⟩,E⟩:=D;have X:=a1 (by omega);exact aq.chk (by simp only[a0h,a0g];omega) (aq.get (by simp only[a0h,a0g];omega) λY _ _=>aq.ret ⟨by simp,E⟩)
  ·exact aq.ret ⟨by simp,v⟩
 have a:=w (z A);refine aq.bind (P:=λ_=>True) (aq.br (λ_=>aq.ret trivial) λ_=>aq.ret trivial) λZ _=>aq.br (λ_=> ?_) λ_=> ?_
 ·refine aq.bd (a _ g.2) λF i=>aq.bd (aQ k i.2 _) λG n=> ?_
  have:=i.1;exact aq.chk (vw (by simp only[a0h,a0g];omega)) (aq.ret ⟨by simp<;>omega,n.2⟩)
 refine aq.br (λ_=> ?_) λ_=> ?_
 ·refine aq.bd (a _ g.2) λH l=> ?_
  have:=l.1;exact aq.chk (vw (by simp only[a0h,a0g];omega)) (aq.ret ⟨by simp<;>omega,l.2⟩)
 refine aq.bd (aQ k g.2 3) λI o=>aq.bd (dW k o.2 4) λJ m=>aq.br (λ_=> ?_) λ_=> ?_
 ·refine aq.bd (aQ k m 2) λK q=>aq.bd (a _ q.2) λs c=>aq.bd (a _ c.2) λt e=> ?_
  have:=c.1;have:=e.1;exact aq.chk (vw) (aq.chk (vw (by simp only[a0j,a0h,a0g];omega)) (aq.ret ⟨by simp<;>omega,e.2⟩))
 ·refine aq.bd (a _ m) λs c=>aq.bd (a _ c.2) λt e=> ?_
  have:=c.1;have:=e.1;exact aq.chk (vw) (aq.chk (vw (by simp only[a0j,a0h,a0g];omega)) (aq.ret ⟨by simp<;>omega,e.2⟩))
def Jm (k:Nat) (d:aE):∀(D n:Nat),D<=5->D<n->∀(r:pF),bF r->∀deep:Int,-100<=deep->deep<=D->aq (aH (mh.f k) n (r,d,deep,())) (Q3 (2^(D+1)-1))
 |0,n,_,hn,r,h,deep,h0,h1=>by
  obtain⟨n,rfl⟩:∃g,n=g+1:=⟨n-1,by omega⟩;rw[aD];exact zg k _ h d ⟨h0,by omega⟩ 0 (by omega) λh=>by omega
 |D+1,n,hD,hn,r,h,deep,h0,h1=>by
  obtain⟨n,rfl⟩:∃g,n=g+1:=⟨n-1,by omega⟩;rw[aD];have c:2^(D+1+1)=2*2^(D+1):=by rw[Nat.pow_succ];omega
  have i:1<=2^(D+1):=Nat.one_le_two_pow;have j:2^(D+1)<=2^6:=Nat.pow_le_pow_right (by omega) (by omega);have:=zg k (aH (mh.f k) n) h d (deep:=deep) ⟨h0,by omega⟩ (2^(D+1)-1) (by omega) λc e a=>Jm k d D n (by omega) (by omega) e a (deep-1) (by omega) (by omega)
  refine aq.mono this λy b=>⟨?_,b.2⟩
  have:=b.1;omega
def N5 (k:Nat) (c:64<=k) (d:aE) (h:bF r) (a: -100<=deep:=by omega) (b:deep<=4:=by omega):aq (mh k (r,d,deep,())) (Q3 31):=Jm k d 4 k (by omega) (by omega) r h deep a b
abbrev Rj:Type:=pF×aE×Int×Int×Unit
abbrev QW:Type:=(List cL×Unit)×(pF×Unit×Unit×Unit×Unit)
def Qu (B:Nat) (y:QW):Prop:=y.1.1.length<=B/\bF y.2.1
def oY (k:Nat) (q:64<=k) (R:Rj->Option QW) (h:bF r) (d:aE) (e:Int) (N: -50<=deep/\deep<=4) (B:Nat) (O:B<=1000) (x:0<deep->∀u a,bF u->0<=a->a<=deep-1->aq (R (u,d,e,a,())) (Qu B)):aq (ny.f k R (r,d,e,deep,())) (Qu (2*B+100)):=by
 obtain⟨b,p,⟨⟩⟩:=r;have y:wrap .i64 (deep-1)=deep-1:=aj (by omega) (by omega);unfold ny.f;simp only[y];refine aq.br (λ_=> ?_) λ_=> ?_
 ·exact aq.bd (N5 k q d h) λQ v=>aq.ret ⟨by have:=v.1;simp only;omega,v.2⟩
 refine aq.bd (aQ k h 8) λS g=>aq.bind (P:=λ_=>True) (aq.dec (λ_=>aq.dec (λ_=>aq.ret trivial) λ_=>aq.ret trivial) λ_=>aq.ret trivial) λT _=>aq.br (λ_=> ?_) λ_=> ?_
 ·exact aq.bd (aQ k g.2 _) λU z=>aq.ret ⟨by simp<;>omega,z.2⟩
 refine aq.bind (P:=λ_=>True) (aq.dec (λ_=>aq.ret trivial) λ_=>aq.ret trivial) λV _=>aq.br (λ_=> ?_) λ_=> ?_
 ·refine aq.bd (aQ k g.2 2) λW A=> ?_
  obtain⟨⟨X,_,a1⟩,C⟩:=A;have Y:=a1 (by omega);exact aq.chk (by simp only[a0h,a0g];omega) (aq.get (by simp only[a0h,a0g];omega) λZ _ _=>aq.ret ⟨by simp<;>omega,C⟩)
 refine aq.bind (P:=λj=>j.1=false->0<deep) (aq.dec (λ_=>aq.ret (λh=>by simp at h)) λ_=>aq.ret (λh=>by have:=a7f h;omega)) λj8 D=>aq.br (λ_=> ?_) λE=> ?_
 ·refine aq.bd (N5 k q d g.2) λy9 w=>aq.bd (N5 k q d w.2) λF i=> ?_
  have:=w.1;have:=i.1;exact aq.chk (vw) (aq.bd (aQ k i.2 6) λG s=>aq.chk (vw (by simp only[a0j,a0h,a0g];omega)) (aq.ret ⟨by simp<;>omega,s.2⟩))
 have H:=D E;have c:=x H;refine aq.br (λ_=> ?_) λ_=> ?_
 ·refine aq.bd (c _ _ g.2 (by omega) (by omega)) λI l=> ?_
  have:=l.1;exact aq.chk (vw (by simp only[a0h,a0g];omega)) (aq.ret ⟨by simp<;>omega,l.2⟩)
 refine aq.dec (λ_=> ?_) λ_=> ?_
 ·refine aq.bd (c _ _ g.2 (by omega) (by omega)) λJ m=>aq.bd (c _ _ m.2 (by omega) (by omega)) λK n=> ?_
  have:=m.1;have:=n.1;exact aq.chk (vw) (aq.bd (aQ k n.2 2) λL t=>aq.chk (vw (by simp only[a0j,a0h,a0g];omega)) (aq.ret ⟨by simp<;>omega,t.2⟩))
 ·exact aq.bd (c _ _ g.2 (by omega) (by omega)) λM o=>aq.ret ⟨by have:=o.1;simp only;omega,o.2⟩
def Ql (k:Nat) (i:64<=k) (d:aE) (a:Int) (h:bF r) (b: -50<=deep) (e:deep<=2):aq (ny k (r,d,a,deep,())) (Qu 700):=by
 have o:∀n:Nat,0<n->∀(r:pF),bF r->∀deep:Int,-50<=deep->deep<=0->aq (aH (ny.f k) n (r,d,a,deep,())) (Qu 100):=by
  intro n m r h deep b e;obtain⟨n,rfl⟩:∃g,n=g+1:=⟨n-1,by omega⟩;rw[aD];exact oY k i _ h d a ⟨b,by omega⟩ 0 (by omega) λh=>by omega
 have p:∀n:Nat,1<n->∀(r:pF),bF r->∀deep:Int,-50<=deep->deep<=1->aq (aH (ny.f k) n (r,d,a,deep,())) (Qu 300):=by
  intro n m r h deep b e;obtain⟨n,rfl⟩:∃g,n=g+1:=⟨n-1,by omega⟩;rw[aD];exact oY k i _ h d a ⟨b,by omega⟩ 100 (by omega) λ_ j l c q s=>o n (by omega) j c l (by omega) (by omega)
 have t:∀n:Nat,2<n->∀(r:pF),bF r->∀deep:Int,-50<=deep->deep<=2->aq (aH (ny.f k) n (r,d,a,deep,())) (Qu 700):=by
  intro n m r h deep b e;obtain⟨n,rfl⟩:∃g,n=g+1:=⟨n-1,by omega⟩;rw[aD];exact oY k i _ h d a ⟨b,by omega⟩ 300 (by omega) λ_ j l c q s=>p n (by omega) j c l (by omega) (by omega)
 exact t k (by omega) r h deep b e
def pY (k:Nat) (f:64<=k) (d:aE) (a:Int) (h:bF r):aq (DC k (r,d,a,())) λy=>y.1.1.length<=700/\bF y.2.1:=by
 obtain⟨b,p,⟨⟩⟩:=r;unfold DC;refine aq.bd (aQ k h 2) λc g=> ?_
 obtain⟨⟨l,_,a1⟩,i⟩:=g;have m:=a1 (by omega);have j:wrap .i64 (1+c.1.1)=1+c.1.1:=aj (by omega) (by omega);simp only[j];exact aq.bd (Ql k f d a i (by omega) (by omega)) λn e=>aq.ret ⟨e.1,e.2⟩
def gw (n:bA):Prop:=n.2.2.1.length<=900/\n.2.2.2.1.length<=900
abbrev Rs:Type:=pF×aE×Int×Int×Unit
abbrev Q4:Type:=(List bA×Unit)×(pF×Unit×Unit×Unit×Unit)
def Qm (B:Nat) (y:Q4):Prop:=y.1.1.length<=B/\(∀n∈y.1.1,gw n)/\bF y.2.1
def Rk (B:Nat) (y:Q4):Prop:=(1<=y.1.1.length/\y.1.1.length<=B)/\(∀n∈y.1.1,gw n)/\bF y.2.1
def zh (h:n+m<=100000:=by omega):(n+m)*80<=ag:=by simp only[ag];omega
def gh {a b:List bA} (c:∀n∈a,gw n) (d:∀n∈b,gw n):∀n∈a++b,gw n:=λn e=>by
 rcases a0k.1 e with h|h
 ·exact c n h
 ·exact d n h
def iP {n:bA} (h:gw n):∀m∈[n],gw m:=λm a=>by rw[a0x.1 a];exact h
def Pp {a b:bA} (h:gw a) (d:gw b):∀m∈[a,b],gw m:=λm c=>by
 simp only[a1j,a3m,a5y]at c;rcases c with rfl|rfl
 ·exact h
 ·exact d
def jw (a b c d:Int):gw (a,b,[],[],c,d,()):=⟨by simp,by simp⟩
def nf (a b c d:Int) {e:List cL} (h:e.length<=900:=by omega):gw (a,b,[],e,c,d,()):=⟨by simp,h⟩
def N6 (k:Nat) (d:aE) (v:Int) (h:bF r):aq (Cy k (r,d,v,())) λy=>y.1.1.length<=700/\bF y.2.1:=by
 obtain⟨b,p,⟨⟩⟩:=r;unfold Cy;exact aq.bd (aQ k h 9) λe a=>aq.bd (aQ k a.2 2) λf c=>aq.ret ⟨by simp,c.2⟩
def Qn (k:Nat) (v:Int) (h:bF r):aq (sQ k (r,v,())) λy=>gw y.1.1/\bF y.2.1:=by
 obtain⟨b,p,⟨⟩⟩:=r;unfold sQ;exact aq.bd (aQ k h 2) λc a=>aq.ret ⟨⟨by simp,by simp⟩,a.2⟩
def F4 (k:Nat) (o:64<=k) (R:Rs->Option Q4) (h:bF r) (d:aE) (z:Int) (hd: -50<=deep/\deep<=4) (B:Nat) (hB:B<=10000) (Y:0<deep->∀s m,bF s->aq (R (s,d,m,deep-1,())) (Qm B)):aq (vI k R (r,d,z,deep,())) (Rk (2*B+3)):=by
 obtain⟨b,p,⟨⟩⟩:=r;have ew:wrap .i64 (deep-1)=deep-1:=aj (by omega) (by omega);have f:∀(n:bA) (s:pF),gw n->bF s->Rk (2*B+3) (([n],()),(s,(),(),(),())):=λn s N l=>⟨⟨by simp,by simp⟩,iP N,l⟩
 unfold vI;simp only[ew];refine aq.bd (aQ k h _) λy1 N=>aq.bd (aQ k N.2 16) λy2 l=> ?_
 refine aq.bind (P:=λj=>j.1=true->0<deep) (aq.dec (λ_=>aq.dec (λhp=>aq.ret λ_=>by omega) λ_=>aq.ret λh=>by simp at h) λ_=>aq.ret λh=>by simp at h) λj3 h3=>aq.br (λO=> ?_) λ_=> ?_
 ·have t:=Y (h3 O)
  refine aq.bd (aQ k l.2 2) λy4 h4=>aq.bd (pY k o d 2 h4.2) λy5 Z=>aq.bd (t _ 3 Z.2) λy6 A=> ?_
  have l5:=Z.1;have l6:=A.1;refine aq.chk (zh (by simp only[a0h,a0g];omega)) (aq.bd (dW k A.2.2 2) λy7 Q=>aq.br (λ_=>aq.dec (λ_=> ?_) λ_=> ?_) λ_=> ?_)
  ·refine aq.chk (zh (by simp only[a0j,a0h,a0g];omega)) (aq.bd (t _ 2 Q) λy8 S=> ?_)
   have l8:=S.1;refine aq.chk (zh (by simp only[a0j,a0h,a0g];omega)) (aq.chk (zh (by simp only[a0j,a0h,a0g];omega)) (aq.ret ⟨⟨by simp<;>omega,by simp<;>omega⟩,?_,S.2.2⟩));exact gh (gh (gh (gh (iP (nf _ _ _ _)) A.2.1) (iP (jw _ _ _ _))) S.2.1) (iP (jw _ _ _ _))
  ·exact aq.chk (zh (by simp only[a0j,a0h,a0g];omega)) (aq.ret ⟨⟨by simp<;>omega,by simp<;>omega⟩,gh (gh (iP (nf _ _ _ _)) A.2.1) (iP (jw _ _ _ _)),Q⟩)
  ·exact aq.chk (zh (by simp only[a0j,a0h,a0g];omega)) (aq.ret ⟨⟨by simp<;>omega,by simp<;>omega⟩,gh (gh (iP (nf _ _ _ _)) A.2.1) (iP (jw _ _ _ _)),Q⟩)
 refine aq.bind (P:=λj=>j.1=true->0<deep) (aq.dec (λ_=>aq.dec (λhp=>aq.ret λ_=>by omega) λ_=>aq.ret λh=>by simp at h) λ_=>aq.ret λh=>by simp at h) λj9 h9=>aq.br (λO=> ?_) λ_=> ?_
 ·have t:=Y (h9 O)
  have g:∀(q:Int) (e:List cL) (M:Int) (s:pF),e.length<=700->bF s->aq (bd k (R (s,d,3,deep-1,())) λi=>
   br k (decide ((([(q,0,[],e,M,0,())]:List bA).length+i.1.1.length)*80<=ag))
   (bd k (sQ k ((i.2.1.1,i.2.1.2.1,()),y1.1.1,())) λa=>
   br k (decide (((([(q,0,[],e,M,0,())]:List bA)++i.1.1).length+([(a.1.1.1,a.1.1.2.1,a.1.1.2.2.1,a.1.1.2.2.2.1,a.1.1.2.2.2.2.1,a.1.1.2.2.2.2.2.1,()),(8,0,[],[],0,0,())]:List bA).length)*80<=ag))
   (some (((([(q,0,[],e,M,0,())]:List bA)++i.1.1)++([(a.1.1.1,a.1.1.2.1,a.1.1.2.2.1,a.1.1.2.2.2.1,a.1.1.2.2.2.2.1,a.1.1.2.2.2.2.2.1,()),(8,0,[],[],0,0,())]:List bA),()),((a.2.1.1,a.2.1.2.1,()),(),(),(),())))
   none)
   none) (Rk (2*B+3)):=λq e M s he hr=>by
   refine aq.bd (t _ 3 hr) λi u=> ?_
   have R0:=u.1;refine aq.chk (zh (by simp only[a0h,a0g];omega)) (aq.bd (Qn k _ u.2.2) λa C=>aq.chk (zh (by simp only[a0j,a0h,a0g];omega)) (aq.ret ⟨⟨by simp<;>omega,by simp<;>omega⟩,gh (gh (iP (nf _ _ _ _)) u.2.1) (Pp C.1 (jw _ _ _ _)),C.2⟩))
  refine aq.bd (N6 k d _ l.2) λR1 v=>aq.bd (dW k v.2 3) λR2 D=>aq.br (λ_=> ?_) λ_=> ?_
  ·refine aq.bd (aQ k D 3) λR3 T=>aq.bd (dW k T.2 6) λR4 E=>aq.br (λ_=> ?_) λ_=> ?_
   ·exact aq.bd (pY k o d 2 E) λR5 F=>g _ _ _ _ F.1 F.2
   ·exact g _ _ _ _ v.1 E
  ·refine aq.bd (dW k D 6) λR6 G=>aq.br (λ_=> ?_) λ_=> ?_
   ·exact aq.bd (pY k o d 2 G) λR7 H=>g _ _ _ _ H.1 H.2
   ·exact g _ _ _ _ v.1 G
 refine aq.bind (P:=λ_=>True) (aq.br (λ_=>aq.ret trivial) λ_=>aq.ret trivial) λR8 _=>aq.br (λ_=> ?_) λ_=> ?_
 ·exact aq.bd (aQ k l.2 _) λR9 U=>aq.bd (pY k o d 2 U.2) λSa I=>aq.ret (f _ _ (nf _ _ _ _ (by have:=I.1;omega)) I.2)
 refine aq.bind (P:=λ_=>True) (aq.br (λ_=>aq.ret trivial) λ_=>aq.ret trivial) λSb _=>aq.br (λ_=> ?_) λ_=> ?_
 ·exact aq.bd (aQ k l.2 _) λSc V=>aq.bd (pY k o d 1 V.2) λSd J=>aq.bd (pY k o d 1 J.2) λSe K=>aq.ret (f _ _ ⟨by have:=J.1;simp only;omega,by have:=K.1;simp only;omega⟩ K.2)
 refine aq.dec (λ_=> ?_) λ_=> ?_
 ·exact aq.bd (aQ k l.2 20) λW w=>aq.bd (aQ k w.2 12) λX x=>aq.ret (f _ _ (jw _ _ _ _) x.2)
 refine aq.br (λ_=> ?_) λ_=> ?_
 ·exact aq.bd (pY k o d 2 l.2) λy c=>aq.ret (f _ _ (nf _ _ _ _ (by have:=c.1;omega)) c.2)
 refine aq.br (λ_=> ?_) λ_=> ?_
 ·exact aq.bd (pY k o d 2 l.2) λy c=>aq.ret (f _ _ (nf _ _ _ _ (by have:=c.1;omega)) c.2)
 refine aq.br (λ_=> ?_) λ_=> ?_
 ·exact aq.bd (aQ k l.2 10) λW w=>aq.bd (aQ k w.2 4) λX x=>aq.ret (f _ _ (jw _ _ _ _) x.2)
 refine aq.br (λ_=> ?_) λ_=> ?_
 ·refine aq.bd (dW k l.2 3) λSf L=>aq.br (λ_=> ?_) λ_=> ?_
  ·exact aq.ret (f _ _ (jw _ _ _ _) L)
  ·exact aq.bd (pY k o d 1 L) λy c=>aq.ret (f _ _ (nf _ _ _ _ (by have:=c.1;omega)) c.2)
 ·exact aq.bd (pY k o d 1 l.2) λy c=>aq.ret (f _ _ (nf _ _ _ _ (by have:=c.1;omega)) c.2)
abbrev Rl:Type:=pF×Int×Int×aE×List bA×Int×Unit
def Rx (d:aE) (a deep:Int) (C:Nat) (x:Rl):Prop:=bF x.1/\x.2.1=a/\x.2.2.1=deep/\x.2.2.2.1=d/\(∀n∈x.2.2.2.2.1,gw n)/\(0<=x.2.2.2.2.2.1/\x.2.2.2.2.2.1<=4)/\(x.2.2.2.2.1.length<=(4-x.2.2.2.2.2.1.toNat)*C)/\(1<=x.2.2.2.2.2.1\/1<=x.2.2.2.2.1.length)
def ng (k:Nat) (w:64<=k) (R:Rs->Option Q4) (h:bF r) (d:aE) (a:Int) (z: -50<=deep/\deep<=4) (B:Nat) (T:B<=2000) (A:0<deep->∀s m,bF s->aq (R (s,d,m,deep-1,())) (Qm B)):aq (lm.f k R (r,d,a,deep,())) λy=>Qm (4*(2*B+3)) y/\(1<=a->1<=y.1.1.length):=by
 obtain⟨b,p,⟨⟩⟩:=r;unfold lm.f;refine aq.bd (aQ k h 4) λt C=> ?_
 obtain⟨⟨U,_,a1⟩,D⟩:=C;have V:=a1 (by omega);have E:wrap .i64 (1+t.1.1)=1+t.1.1:=aj (by omega) (by omega);simp only[E];refine aq.loop (Rx d a deep (2*B+3)) (λx=>x.2.2.2.2.2.1.toNat) ?_ k _ ⟨D,rfl,rfl,rfl,by simp,by simp only;omega,by simp,.inl (by simp only;omega)⟩ (by simp only;omega)
 rintro G ⟨⟨W,X,⟨⟩⟩,m,Y,⟨F,H,I,⟨⟩⟩,c,i,⟨⟩⟩ ⟨g,rfl,rfl,rfl,l,J,K,n⟩ hG
 simp only at g l J K n;simp only[lm.l0];refine aq.bind (P:=λj=>(j.1=true->0<i)/\(j.1=false->1<=m->1<=c.length)) (aq.dec (λL=>aq.ret ⟨λ_=>by omega,λM u=> ?_⟩) λL=>aq.ret ⟨λh=>by simp at h,λ_ _=>by omega⟩) λZ v=>aq.br (λo=> ?_) λo=> ?_
 ·have:=a7f M;omega
 ·have N:=v.1 o
  refine aq.bd (F4 k w R g (F,H,I,()) _ z B (by omega) A) λy3 O=> ?_
  obtain⟨⟨q1,q2⟩,Q,S⟩:=O;have u:(4-i.toNat)*(2*B+3)<=4*(2*B+3):=a0q _ (by omega);refine aq.chk (zh) ?_
  have q:wrap .i64 (i-1)=i-1:=aj (by omega) (by omega);rw[q];refine hG _ ⟨S,rfl,rfl,rfl,gh l Q,by simp only;omega,?_,.inr (by simp<;>omega)⟩ (by simp only;omega);have e:4-(i-1).toNat=(4-i.toNat)+1:=by omega
  simp only[a0j];rw[e,a1a,a2w];omega
 ·have u:(4-i.toNat)*(2*B+3)<=4*(2*B+3):=a0q _ (by omega)
  exact aq.ret ⟨⟨by simp only;omega,l,g⟩,v.2 o⟩
def Pq (k:Nat) (i:64<=k) (d:aE) (h:bF r) (a:Int):aq (lm k (r,d,a,2,())) λy=>Qm 900 y/\(1<=a->1<=y.1.1.length):=by
 have p:∀n:Nat,0<n->∀(r:pF) (m:Int),bF r->aq (aH (lm.f k) n (r,d,m,0,())) (Qm 12):=by
  intro n j r m h;obtain⟨n,rfl⟩:∃g,n=g+1:=⟨n-1,by omega⟩;rw[aD];exact aq.mono (ng k i _ h d m (deep:=0) (by omega) 0 (by omega) λh=>by omega) λy b=>b.1
 have q:∀n:Nat,1<n->∀(r:pF) (m:Int),bF r->aq (aH (lm.f k) n (r,d,m,1,())) (Qm 108):=by
  intro n j r m h;obtain⟨n,rfl⟩:∃g,n=g+1:=⟨n-1,by omega⟩;rw[aD];exact aq.mono (ng k i _ h d m (deep:=1) (by omega) 12 (by omega) λ_ l o c=>p n (by omega) l o c) λy b=>b.1
 obtain⟨n,j⟩:∃g,k=g+1:=⟨k-1,by omega⟩;have e:aq (aH (lm.f k) (n+1) (r,d,a,2,())) λy=>Qm 900 y/\(1<=a->1<=y.1.1.length):=by
  rw[aD];refine aq.mono (ng k i _ h d a (deep:=2) (by omega) 108 (by omega) λ_ l o c=>q n (by omega) l o c) λy b=>⟨⟨by have:=b.1.1;omega,b.1.2⟩,b.2⟩
 unfold lm;rw[j]at e⊢;exact e
structure oZ (p:eC):Prop where
 d:dG (au p)
 n:p.2.2.2.1.length<=1000
 s:∀n∈p.2.2.2.1,gw n
def oZ.small {p:eC} (h:oZ p):m6 p:=⟨h.d,by have:=h.n;omega,λn a=>by have:=(h.s n a).1;omega,λn a=>by have:=(h.s n a).2;omega⟩
abbrev Rm:Type:=pF×eC×aE×eC×Int×Unit
def Ry (d:aE) (x:Rm):Prop:=bF x.1/\x.2.2.1=d/\au x.2.2.2.1=d/\(∀n∈x.2.2.2.1.2.2.2.1,gw n)/\(0<=x.2.2.2.2.1/\x.2.2.2.2.1<=3)/\x.2.2.2.1.2.2.2.1.length<=(3-x.2.2.2.2.1.toNat)*900/\(1<=x.2.2.2.1.2.2.2.1.length\/(x.2.2.2.1.2.2.2.1.length=0/\1<=x.2.2.2.2.1))
def Qo (k:Nat) (u:64<=k) (h:bF r):aq (Cz k (r,())) λy=>(tI (au y.1.1)/\oZ y.1.1/\1<=y.1.1.2.2.2.1.length/\y.1.1.2.2.2.1.length<=30)/\bF y.2.1:=by
 obtain⟨b,p,⟨⟩⟩:=r;unfold Cz;refine aq.bd (Qh k (by omega) h) λv d=>aq.bd (aQ k d.2 3) λt w=> ?_
 obtain⟨⟨J,_,a1⟩,z⟩:=w;have K:=a1 (by omega);have A:wrap .i64 (1+t.1.1)=1+t.1.1:=aj (by omega) (by omega);simp only[A];refine aq.loop (Ry v.1.1) (λx=>x.2.2.2.2.1.toNat) ?_ k _ ⟨z,rfl,rfl,by simp,by simp only;omega,by simp,.inr ⟨by simp,by simp only;omega⟩⟩ (by simp only;omega)
 rintro G ⟨⟨L,M,⟨⟩⟩,⟨N,O,P,Q,⟨⟩⟩,⟨R,S,T,⟨⟩⟩,⟨g,j,l,U,⟨⟩⟩,i,⟨⟩⟩ ⟨m,f,a,n,B,C,c⟩ hG
 simp only[au]at m f a n B C c;have V:(3-i.toNat)*900<=3*900:=a0q _ (by omega);simp only[Cz.l0];refine aq.dec (λD=> ?_) λD=>aq.dec (λo=>aq.ret ?_) λo=>aq.ret ?_
 ·refine aq.bd (Pq k u _ m _) λW E=> ?_
  obtain⟨⟨X,F,H⟩,I⟩:=E;refine aq.chk (zh) ?_
  have q:wrap .i64 (i-1)=i-1:=aj (by omega) (by omega);rw[q];refine hG _ ⟨H,f,a,gh n F,by simp only;omega,?_,.inl ?_⟩ (by simp only;omega)
  ·have e:3-(i-1).toNat=(3-i.toNat)+1:=by omega
   simp only[a0j];rw[e,a1a,a2w];omega
  ·simp only[a0j]
   rcases c with c|⟨c,_⟩
   ·omega
   ·have:=I (by rw[c];decide)
    omega
 ·exact⟨⟨by show tI (g,j,l,());rw[a];exact d.1,⟨by show dG (g,j,l,());rw[a];exact d.1.s,by simp,iP (jw _ _ _ _)⟩,by simp,by simp⟩,m⟩
 ·exact⟨⟨by show tI (g,j,l,());rw[a];exact d.1,⟨by show dG (g,j,l,());rw[a];exact d.1.s,by simp only;omega,n⟩,by simp only;omega,by simp only;omega⟩,m⟩
def F5 (k:Nat) (w:64<=k) (h:bF r) (a:tI d):aq (JW k (r,d,())) λy=>dG y.1.1/\bF y.2.1:=by
 obtain⟨b,p,⟨⟩⟩:=r;have z:=a.n0;have A:=a.n1;have n2:=a.n2;have i:=a.s.s0;have e:=a.s.s1;have f:=a.s.s2;unfold JW;refine aq.bd (aQ k h 24) λB c=>aq.br (λ_=> ?_) λ_=>aq.br (λ_=> ?_) λ_=>aq.br (λ_=> ?_) λ_=> ?_
 ·refine aq.chk (by simp only[a0g,ag];omega) (aq.bd (aQ k c.2 6) λC j=> ?_)
  obtain⟨⟨l,_,a1⟩,m⟩:=j;have n:=a1 (by omega);refine aq.chk (by simp only[a0h,a0g];omega) (aq.get (by simp only[a0h,a0g];omega) λo hx _=> ?_);have D:o.length<=100:=by
   simp only[a1j,a3m,a5y]at hx;rcases hx with rfl|rfl|rfl|rfl|rfl|rfl<;>decide
  refine aq.chk (by simp only[a0j,a0h,a0g,ag];omega) (aq.ret ⟨⟨by simp<;>omega,?_,by simp only;omega,e,by simp only;omega,f⟩,m⟩);intro x hx;simp only[a1s]at hx;rcases a0k.1 hx with hx|hx
  ·exact i x hx
  ·rw[a0x.1 hx];omega
 ·refine aq.chk (by simp only[a0g,ag];omega) (aq.bd (oX k (by omega) c.2) λE q=> ?_)
  refine aq.chk (by simp only[a0j,a0h,a0g,ag];omega) (aq.ret ⟨⟨by simp only;omega,i,by simp only;omega,e,by simp<;>omega,?_⟩,q.2⟩);intro x hx;simp only[a1s]at hx;rcases a0k.1 hx with hx|hx
  ·exact f x hx
  ·rw[a0x.1 hx];simp
 ·refine aq.bd (aQ k c.2 2) λg t=> ?_
  obtain⟨⟨l,_,a1⟩,u⟩:=t;have n:=a1 (by omega);have v:wrap .i64 (5+g.1.1)=5+g.1.1:=aj (by omega) (by omega);simp only[v];refine aq.chk (by simp only[a0h,a0g];omega) (aq.ret ⟨⟨?_,?_,by simp only;omega,e,by simp only;omega,f⟩,u⟩)
  ·have:=(jb ([[112],[113],[114],[115],[116],[117]]:List (List UInt8)) ((0:Int).toNat) ((5+g.1.1).toNat-(0:Int).toNat)).2
   simp only[a0h,a0g]at this;simp only;omega
  ·intro x hx
   have:=kc hx;simp only[a1j,a3m,a5y]at this;rcases this with rfl|rfl|rfl|rfl|rfl|rfl<;>decide
 ·exact aq.ret ⟨a.s,c.2⟩
abbrev Rn:Type:=pF×List cL×Int×Unit
def Rz (x:Rn):Prop:=bF x.1/\(0<=x.2.2.1/\x.2.2.1<=42)/\x.2.1.length<=900+x.2.2.1.toNat
def Im (k:Nat) (I:64<=k) (h:bF r) {l:List cL} (J:l.length<=900) (o:1<=l.length):aq (CA k (r,l,())) λy=>y.1.1.length<=1000/\bF y.2.1:=by
 obtain⟨b,p,⟨⟩⟩:=r;unfold CA;refine aq.bd (aQ k h 20) λK a=>aq.br (λ_=> ?_) λ_=>aq.br (λ_=> ?_) λ_=>aq.br (λ_=> ?_) λ_=>aq.br (λ_=> ?_) λ_=> ?_
 ·have q:wrap .i64 ((l.length:Int)+1)=(l.length:Int)+1:=aj (by omega) (by omega)
  rw[q];refine aq.bd (aQ k a.2 _) λs t=> ?_
  obtain⟨⟨g,_,a1⟩,u⟩:=t;have m:=a1 (by omega);refine aq.chk (by omega) (aq.ret ⟨?_,u⟩);have:=(jb l ((0:Int).toNat) (s.1.1.toNat-(0:Int).toNat)).2;simp only;omega
 ·refine aq.bd (aQ k a.2 _) λv c=>aq.bd (oX k (by omega) c.2) λw d=> ?_
  obtain⟨⟨g,_,a1⟩,z⟩:=c;have m:=a1 (by omega);exact aq.chk (by omega) (aq.get (by omega) λA _ _=>aq.ret ⟨by simp<;>omega,d.2⟩)
 ·refine aq.bd (aQ k a.2 _) λv c=>aq.bd (oX k (by omega) c.2) λw d=> ?_
  obtain⟨⟨g,_,a1⟩,z⟩:=c;have m:=a1 (by omega);exact aq.chk (by omega) (aq.get (by omega) λA _ _=>aq.ret ⟨by simp<;>omega,d.2⟩)
 ·refine aq.loop Rz (λx=>(42-x.2.2.1).toNat) ?_ k _ ⟨a.2,by simp only;omega,by simp only;omega⟩ (by simp only;omega)
  rintro G ⟨⟨L,M,⟨⟩⟩,N,i,⟨⟩⟩ ⟨e,B,f⟩ hG
  simp only at e B f;simp only[CA.l1];refine aq.bind (P:=λj=>j.1=true->i<42) (aq.dec (λC=>aq.br (λ_=>aq.ret λ_=>C) λD=>by simp at D) λ_=>aq.ret λh=>by simp at h) λO E=>aq.br (λF=> ?_) λ_=>aq.ret ⟨by simp only;omega,e⟩
  have H:=E F;refine aq.chk (vw (by simp only[a0h,a0g];omega)) ?_
  rw[aj (n:=i+1) (by omega) (by omega)];refine hG _ ⟨e,by simp only;omega,by simp only[a0j,a0h,a0g];omega⟩ (by simp only;omega)
 ·exact aq.ret ⟨by simp only;omega,a.2⟩
def Pr {l:List bA} (a:∀n∈l,gw n) (i:Nat) {n:bA} (b:gw n):∀m∈l.set i n,gw m:=λm c=>by
 rcases a2s c with h|h
 ·exact a m h
 ·rw[h];exact b
abbrev Ro:Type:=pF×eC×eC×Int×Int×Unit
def RA (p:eC) (x:Ro):Prop:=bF x.1/\au x.2.1=au p/\(∀n∈x.2.1.2.2.2.1,gw n)/\(0<=x.2.2.2.2.1/\x.2.2.2.2.1<=32)/\x.2.1.2.2.2.1.length<=30+x.2.2.2.2.1.toNat
def In (k:Nat) (Y:64<=k) (h:bF r) {p:eC} (hd:tI (au p)) (B:oZ p) (c:1<=p.2.2.2.1.length) (K:p.2.2.2.1.length<=30):aq (CB k (r,p,())) λy=>m6 y.1.1/\bF y.2.1:=by
 obtain⟨b,q,⟨⟩⟩:=r;obtain⟨L,M,N,m,⟨⟩⟩:=p;have e:=B.s;have o:=B.d;simp only at e c K;have u:∀(i:Nat) (n:bA),gw n->oZ (L,M,N,m.set i n,()):=λi n c=>⟨o,by simp<;>omega,Pr e i c⟩
 have f:∀(i:Nat) (a v O C:Int) (x:bA),gw x->m6 (L,M,N,m.set i (a,v,x.2.2.1,x.2.2.2.1,O,C,()),()):=λi a v O C x g=>(u i (a,v,x.2.2.1,x.2.2.2.1,O,C,()) g).small
 unfold CB;refine aq.bd (aQ k h _) λz h1=> ?_
 obtain⟨⟨a0,_,a1⟩,r1⟩:=h1;have a2:=a1 (by omega);have J:z.1.1.toNat<m.length:=by omega
 refine aq.bd (aQ k r1 24) λy2 t=>aq.br (λ_=> ?_) λ_=>aq.br (λ_=> ?_) λ_=>aq.br (λ_=> ?_) λ_=>aq.br (λ_=> ?_) λ_=>aq.br (λ_=> ?_) λ_=>aq.br (λ_=> ?_) λ_=>aq.br (λ_=> ?_) λ_=> ?_
 ·exact aq.bd (F5 k Y t.2 hd) λy3 Z=>aq.ret ⟨oZ.small ⟨Z.1,by simp only;omega,e⟩,Z.2⟩
 ·exact aq.bd (oX k (by omega) t.2) λy4 D=>aq.chk (by omega) (aq.get J λw g _=>aq.ret ⟨f _ _ _ _ _ w (e w g),D.2⟩)
 ·have ew:wrap .i64 (z.1.1+1)=z.1.1+1:=aj (by omega) (by omega)
  simp only[ew];refine aq.chk (by omega) (aq.chk (by omega) (aq.chk (by omega) (aq.chk (by simp only[ag];omega) (aq.ret ⟨oZ.small ⟨o,?_,?_⟩,t.2⟩))))
  ·have l1:=(jb m ((0:Int).toNat) (z.1.1.toNat-(0:Int).toNat)).2
   have l2:=(jb m ((z.1.1+1).toNat) ((m.length:Int).toNat-(z.1.1+1).toNat)).2;simp only[a0j];omega
  ·exact gh (λn c=>e n (kc c)) (λn c=>e n (kc c))
 ·exact aq.bd (oX k (by omega) t.2) λy4 D=>aq.chk (by omega) (aq.get J λw g _=>aq.ret ⟨f _ _ _ _ _ w (e w g),D.2⟩)
 ·exact aq.bd (oX k (by omega) t.2) λy4 D=>aq.chk (by omega) (aq.get J λw g _=>aq.ret ⟨f _ _ _ _ _ w (e w g),D.2⟩)
 ·refine aq.loop (RA (L,M,N,m,())) (λx=>(32-x.2.2.2.2.1).toNat) ?_ k _ ⟨t.2,rfl,e,by simp only;omega,by simp only;omega⟩ (by simp only;omega)
  rintro G ⟨⟨rb,rp,⟨⟩⟩,⟨q0,Q,R,q3,⟨⟩⟩,⟨t0,t1,t2,t3,⟨⟩⟩,at_,i,⟨⟩⟩ ⟨S,E,A,C,T⟩ hG
  simp only at S C T A;simp only[CB.l1];refine aq.bind (P:=λj=>j.1=true->i<32) (aq.dec (λB=>aq.br (λ_=>aq.ret λ_=>B) λhz=>by simp at hz) λ_=>aq.ret λh=>by simp at h) λj9 h9=>aq.br (λhj=> ?_) λ_=>aq.ret ⟨oZ.small ⟨by rw[show au (q0,Q,R,q3,())=_ from E];exact o,by simp only;omega,A⟩,S⟩
  have R0:=h9 hj;refine aq.chk (zh (by simp only[a0h,a0g];omega)) ?_
  rw[aj (n:=i+1) (by omega) (by omega)];exact hG _ ⟨S,E,gh A (iP (jw _ _ _ _)),by simp only;omega,by simp only[a0j,a0h,a0g];omega⟩ (by simp only;omega)
 ·refine aq.chk (by omega) (aq.get J λF g H=>aq.dec (λU=> ?_) λ_=>aq.ret ⟨(u _ _ (e F g)).small,t.2⟩)
  obtain⟨x0,xv,xI,V,xl,xh,⟨⟩⟩:=F;have es:m.set z.1.1.toNat (x0,xv,xI,V,xl,xh,())=m:=by
   obtain⟨Q,R⟩:=a0r.1 H;rw[<-R];exact a5o Q
  simp only[es]at U⊢;have hE:=e _ g;have R1:xI.length<=900:=hE.1;have W:V.length<=900:=hE.2;refine aq.chk (by omega) ?_
  rw[H,ac];refine aq.bd (Im k Y t.2 (l:=V) W (by omega)) λR2 I=> ?_
  refine aq.chk (by omega) ?_
  have X:=I.1;refine aq.chk trivial (aq.ret ⟨⟨o,by simp<;>omega,λn c=> ?_,λn c=> ?_⟩,I.2⟩)
  ·rcases a2s c with c|rfl
   ·have:=(e n c).1;omega
   ·simp only;omega
  ·rcases a2s c with c|rfl
   ·have:=(e n c).2;omega
   ·simp only;omega
 ·exact aq.ret ⟨B.small,t.2⟩
def Dz (k:Nat) (f:4194304<k) {t:List cG} (h:t.length<=1000):xU k (t,t,())=some ((true,()),((),(),())):=by
 unfold xU;have c:((t.length:Int) !=(t.length:Int))=false:=by simp
 simp only[c,ah];exact bg (b:=xU.l0 k) (λi=>(t,t,(i:Int),())) t.length (λG i d=>by
  have a:((i:Int)<(t.length:Int)):=by omega
  have e:(0:Int)<=(i:Int):=by omega
  simp only[xU.l0,ap,a0f a,a0f e,a0i,a0a d,ac,BEq.rfl,a3t,a0o,ah,a4c];rw[aB]) (λG=>by
  have a:¬((t.length:Int)<(t.length:Int)):=by omega
  simp only[xU.l0,ap,a0d a]) (by omega)
def N7 (f:aO d=true) (h:aV d e):ze e:=by
 have g:=bD f h;rcases h with⟨_,c,_,_⟩|h
 ·exact⟨by omega,by omega,λa b=>⟨(c.fi a b).1,(c.fi a b).2⟩,λa b=>⟨(c.fa a b).1,(c.fa a b).2⟩⟩
 ·rw[h];exact⟨by simp[bm],by simp[bm],by simp[bm],by simp[bm]⟩
def DA (k:Nat) (g:4194304<k) {a:List bc} (d:a.length<=1000) (f:∀e∈a,ze e):Ah k (a,a,())=some ((true,()),((),(),())):=by
 obtain⟨y,e,c⟩:=F3 k (by omega) (a:=a) (b:=a) d f;obtain⟨⟨b,⟨⟩⟩,⟨⟨⟩,⟨⟩,⟨⟩⟩⟩:=y;simp only[a8r]at c;subst c;exact e
def zi (f:4194304<k) (g:aO d=true) (j:∀p∈l,fP d p) (s:l.length<=100000):xV k (l,l,())=some ((true,()),((),(),())):=by
 unfold xV;have n:((l.length:Int) !=(l.length:Int))=false:=by simp
 simp only[n,ah];exact bg (b:=xV.l0 k) (λi=>(l,l,(i:Int),())) l.length (λG i h=>by
  have c:=j _ (a0n h);have o:=Dz k f (t:=l[i].1) (by have:=lA c.t;omega);have q:=DA k f (a:=l[i].2.1) (by have:=fY g c.m;omega) (λe r=>N7 g (c.m.e e r));simp only[xV.l0];rw[a0b (show(i:Int)<(l.length:Int) by omega),a0b (show(0:Int)<=(i:Int) by omega)];simp only[ai,a0i,a0a h,ac,o,q,a0o,ah,a0c];rw[aB]) (λG=>by
  simp only[xV.l0];rw[a0m (show¬(l.length:Int)<(l.length:Int) by omega),ah]) (by omega)
def zj (d:4194304<k) {p:eC} (g:aO (au p)=true) {f:qC} (a:FO p f):EU k (f,f,())=some ((true,()),((),(),())):=by
 simp only[EU,a4c,ah,BEq.rfl,a0o,a0c];exact bg (b:=EU.l0 k) (λi=>((f.1,f.2.1,f.2.2.1,()),(f.1,f.2.1,f.2.2.1,()),(i:Int),())) f.1.length (λG i c=>by
  obtain⟨h,l,_,_⟩:=a.e _ (a0n c);have j:=zi d g h.p (by omega);simp only[EU.l0];rw[a0b (show(i:Int)<(f.1.length:Int) by omega),a0b (show(0:Int)<=(i:Int) by omega)];simp only[ai,a0i,a0a c,ac,a4c,j,a0o,ah,a0c];rw[aB (by have:=a.n;omega)]) (λG=>by
  simp only[EU.l0];rw[a0m (show¬(f.1.length:Int)<(f.1.length:Int) by omega),ah]) (by have:=a.n;omega)
def zk (k:Nat) (b:4194304<k):EU k (([],0,false,()),([],0,false,()),())=some ((true,()),((),(),())):=by
 simp only[EU,a4c,ah,BEq.rfl,a0o,a0c];obtain⟨f,a⟩:∃f,k=f+1:=⟨k-1,by omega⟩
 conv=>lhs;arg 2;rw[a]
 rw[aD];simp only[EU.l0];rw[a0m (show¬(0:Int)<(([]:List gJ).length:Int) by simp),ah]
def Ps (a:tI d) {q:aI} (h:vv d q):FX q:=by
 have c:=Dy h.t;have f:=h.e.len a;exact⟨by omega,by omega,λe b=>(h.e.e e b).any a⟩
def Io (c:l.length<=100) (h:∀q∈l,FX q):jk l:=⟨by omega,λp a=>(h p a).t,λp a=>by have:=(h p a).n;omega,λp a e b=>by have:=((h p a).e e b).n1;have:=((h p a).e e b).n2;exact⟨by omega,by omega⟩⟩
def N8 (h:∀q∈l,FX q):LJ l:=λp b e c=>⟨λx a=>⟨(((h p b).e e c).f1 x a).1,(((h p b).e e c).f1 x a).2⟩,λx a=>⟨(((h p b).e e c).f2 x a).1,(((h p b).e e c).f2 x a).2⟩⟩
def Ip (k:Nat) (m:4194304<k) {a:List Int} (n:a.length<=140737488351232) (o:∀x∈a,0<=x/\x<=255):aq (KH k (a,())) λy=>m6 y.1.1/\y.1.2.2.1.length<=4/\∀q∈y.1.2.2.1,FX q:=by
 unfold KH;refine aq.bd (Qg k n o) λB r=>aq.bd (Qo k (by omega) r) λc b=>aq.bd (Pn k m b.2 (d:=au c.1.1) b.1.1) λs i=>aq.bd (aQ k i.2 _) λC t=>aq.bd (aQ k t.2 24) λD f=> ?_
 obtain⟨⟨g,e,u,v⟩,_⟩:=b;obtain⟨⟨z,j⟩,_⟩:=i;have h:∀q∈s.1.1,FX q:=λq b=>Ps g (j q b)
 refine aq.br (λ_=> ?_) λ_=>aq.br (λ_=> ?_) λ_=>aq.br (λ_=> ?_) λ_=> ?_
 ·exact aq.bd (In k (by omega) f.2 (p:=c.1.1) g e u v) λE A=>aq.ret ⟨A.1,by simp only;omega,h⟩
 ·have w:wrap .i64 ((c.1.1.2.2.2.1.length:Int)-1)=(c.1.1.2.2.2.1.length:Int)-1:=aj (by omega) (by omega)
  rw[w];exact aq.bd (oX k (by omega) f.2) λF G=>aq.ret ⟨e.small,by simp only;omega,h⟩
 ·exact aq.bd (FY k (by omega) f.2 g z j) λH l=>aq.ret ⟨e.small,l.1.1,l.1.2⟩
 ·exact aq.ret ⟨e.small,by simp only;omega,h⟩
def Qp (k:Nat) (a:List Int):aq (JS k (a,())) λ_=>True:=by
 unfold JS;exact aq.ret trivial
def zl (b:4194304<k) (a:k<=4611686018427387903) (e:dG d) (c:aO d=true) (f:jk l):HA k (d,l,())=some ((dn d l,()),((),(),())):=by
 simp only[HA,pQ k b a d e,c,ac,ai,uV k b d (eJ c).2.1 l f,a0c]
def Ax (k:Nat) (j:4194304<k) (g:k<=4611686018427387903) {a:List Int} (I:a.length<=140737488351232) (J:∀x∈a,0<=x/\x<=255):aq (vp k (a,())) λy=>y.1.1=true:=by
 unfold vp;refine aq.bd (Qp k a) λ_ _=>aq.br (λ_=>aq.ret rfl) λ_=>aq.bd (Ip k j I J) λK L=> ?_
 obtain⟨⟨p,at_,l,⟨⟩⟩,o⟩:=K;obtain⟨r,M,v⟩:=L;simp only at r M v;have z:=Io (by omega) v;have u:=N8 v;have A:=u1 j g p r at_ l z u;have B:=FS j g p r at_ l z u;have s:jk []:=⟨by simp,by simp,by simp,by simp⟩;have N:EM k ((p.1,p.2.1,p.2.2.1,p.2.2.2.1,()),at_,[],())=some ((([],0,false,()),()),((),(),(),())):=by
  have:=u1 j g p r at_ [] s (λq O=>by cases O);rw[FR]at this;exact this
 have C:=zk k j;have m:FO p (eR p at_ l):=Du u;have D:=Aw (p:=p) (at_:=at_) u;have c:aO (au p)=true\/(eR p at_ l)=([],0,false,()):=by
  rcases a0p (fG p)with hok|hok
  ·exact Or.inl (eE hok).1
  ·right
   unfold eR;rw[hok,a3q,cF rfl]
 have E:EU k (eR p at_ l,eR p at_ l,())=some ((true,()),((),(),())):=by
  rcases c with h|h
  ·exact zj j h m
  ·rw[h];exact C
 obtain⟨F,P⟩:∃F,F=eR p at_ l:=⟨_,rfl⟩;rw[<-P]at A B E m D c;have w:EU k ((F.1,F.2.1,F.2.2.1,()),(F.1,F.2.1,F.2.2.1,()),())=_:=E;simp only[A,B,ac,w,a0o,ah];refine⟨((true,()),((),())),?_,rfl⟩;refine bg (b:=vp.l0 k) (λi=>((p.1,p.2.1,p.2.2.1,p.2.2.2.1,()),at_,(F.1,F.2.1,F.2.2.1,()),(i:Int),())) F.1.length (λG i t=> ?_) (λG=> ?_) (f:=k) (by have:=m.n;omega)
 ·obtain⟨Q,U,V,W⟩:=m.e _ (a0n t)
  obtain⟨R,X⟩:=D _ (a0n t);have H:aO (au p)=true:=by
   rcases c with h|h
   ·exact h
   ·rw[h]at t;cases t
  have S:HA k ((p.1,p.2.1,p.2.2.1,()),F.1[i].2.1,())=some ((dn (au p) F.1[i].2.1,()),((),(),())):=zl j g r.d H (Fy H Q);have T:((F.1[i].2.1.length:Int)==0)=false:=by simp only[beq_eq_false_iff_ne];omega
  simp only[vp.l0];rw[a0b (show(i:Int)<(F.1.length:Int) by omega),a0b (show 0<=(i:Int)/\(i:Int)<(F.1.length:Int) by omega)];simp only[ai,a0i,a0a t,ac];rw[a0m (show¬F.1[i].1<0 by omega),ah,a0m (show¬F.1[i].1>(p.2.2.2.1.length:Int) by omega),ah,S,ac,R,a0o,ah,T,a0c,ah];rw[aB (by have:=m.n;omega)]
 ·simp only[vp.l0]
  rw[a0m (show¬(F.1.length:Int)<(F.1.length:Int) by omega),ah,a0b (show(F.1.length:Int)<=2 by have:=m.n;omega),ai,N,ac,C,ac]
def tJ (x:List Int×Unit) (g:QC [.sl false (.int .u8)] x):∃k o,vp k x=some ((true,()),o):=by
 obtain⟨d,⟨⟩⟩:=x;obtain⟨⟨a,c⟩,_⟩:=g;obtain⟨⟨⟨b,⟨⟩⟩,o⟩,e,f⟩:=Ax 8388608 (by omega) (by omega) a λx h=>c x h
 simp only at f;subst f;exact⟨8388608,o,e⟩
