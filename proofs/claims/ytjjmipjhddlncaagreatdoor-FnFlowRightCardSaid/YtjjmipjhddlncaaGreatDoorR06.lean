/-
  Small laws for the printed texts.
-/
import Derived.Test.YtjjmipjhddlncaaGreatDoorR02
import Derived.Lib.ItoaNum
import Derived.Test.YtjjmipjhddlncaaGreatDoorR05
import Derived.KernelRfl
set_option linter.all false
open Go.IntKind (wrap)
namespace Go.Pev
variable {n:Int}
@[simp] theorem ai {α:Type} (n:Nat) (x y:Option α):br n true x y=x:=by rw[ek];rfl
@[simp] theorem ah {α:Type} (n:Nat) (x y:Option α):br n false x y=y:=by rw[ek];rfl
@[simp] theorem ac {α β:Type} (n:Nat) (a:β) (f:β->Option α):bd n (some a) f=f a:=by rw[DE];rfl
@[simp] theorem QZ {α β:Type} (n:Nat) (f:β->Option α):bd n none f=none:=by rw[DE];rfl
def ap {α:Type} (n:Nat) (p:Prop) [Decidable p] (x y:Option α):br n (decide p) x y=if p then x else y:=by
 by_cases h:p<;>simp[h]
def aD {A R:Type} (b:(A->Option R)->A->Option R) (n:Nat) (x:A):aH b (n+1) x=b (aH b n) x:=rfl
def aj (a: -9223372036854775808<=n) (b:n<=9223372036854775807):wrap .i64 n=n:=by
 simp[wrap,IntKind.bits,IntKind.signed];omega
def gW (a:0<=n:=by omega) (b:n<18446744073709551616:=by omega):wrap .u64 n=n:=by
 simp[wrap,IntKind.bits,IntKind.signed];omega
def rq (a: -9223372036854775808<=n) (b:n<0):wrap .u64 n=n+18446744073709551616:=by
 simp[wrap,IntKind.bits,IntKind.signed];omega
end Go.Pev
namespace Go.Pev.F
def cx {α:Type} (k:Nat) (a b:Int) (x y:Option α):br k (a==b) x y=if a=b then x else y:=by
 by_cases h:a=b
 ·simp[h]
 ·have:(a==b)=false:=by simpa using h
  rw[this,ah,a0d h]
def jt (k:Nat) (a b c:Int):qq k (a,b,c,())=some ((decide (b<=a/\a<=c),()),((),(),(),())):=by
 unfold qq;by_cases h:b<=a<;>by_cases d:a<=c<;>simp[h,d]
def dh (k:Nat) (a b c:Int):z7 k (a,b,c,())=some ((decide (b<=a/\a<=c),()),((),(),(),())):=by
 unfold z7;by_cases h:b<=a<;>by_cases d:a<=c<;>simp[h,d]
end Go.Pev.F
namespace Go.Pev
variable {A R α:Type} {f:Nat}
def bg {b:(A->Option R)->A->Option R} (st:Nat->A) (m:Nat) {r:Option R} (h:∀G i,i<m->b G (st i)=G (st (i+1))) (d:∀G,b G (st m)=r) (a:m<f):aH b f (st 0)=r:=by
 have c:∀(n i f:Nat),i+n=m->n<f->aH b f (st i)=r:=by
  intro n
  induction n with
  |zero=>
   intro i f e a;obtain⟨f,rfl⟩:∃g,f=g+1:=⟨f-1,by omega⟩;obtain rfl:i=m:=by omega
   rw[aD,d]
  |succ n ih=>
   intro i f e a;obtain⟨f,rfl⟩:∃g,f=g+1:=⟨f-1,by omega⟩;rw[aD,h _ i (by omega)];exact ih (i+1) f (by omega) (by omega)
 exact c m 0 f (by omega) a
def kG {b:(A->Option R)->A->Option R} (st:Nat->A) (m:Nat) (q:Nat->Bool) (rf:Nat->Option R) {r:Option R} (h:∀G i,i<m->b G (st i)=if q i=true then rf i else G (st (i+1))) (p:∀G,b G (st m)=r) (k:m<f):(∃i,i<m/\q i=true/\aH b f (st 0)=rf i)\/((∀i,i<m->q i=false)/\aH b f (st 0)=r):=by
 have l:∀(n i f:Nat),i+n=m->n<f->(∃j,i<=j/\j<m/\q j=true/\aH b f (st i)=rf j)\/((∀j,i<=j->j<m->q j=false)/\aH b f (st i)=r):=by
  intro n
  induction n with
  |zero=>
   intro i f s k;obtain⟨f,rfl⟩:∃g,f=g+1:=⟨f-1,by omega⟩;obtain rfl:i=m:=by omega
   exact .inr ⟨λj c a=>by omega,by rw[aD,p]⟩
  |succ n ih=>
   intro i f s k;obtain⟨f,rfl⟩:∃g,f=g+1:=⟨f-1,by omega⟩;rw[aD,h _ i (by omega)]
   cases hq:q i with
   |true=>exact .inl ⟨i,a1m _,by omega,hq,by simp⟩
   |false=>
    simp only[a0t,a1y];rcases ih (i+1) f (by omega) (by omega)with⟨j,c,a,e,d⟩|⟨c,a⟩
    ·exact .inl ⟨j,by omega,a,e,d⟩
    ·refine .inr ⟨λj e d=> ?_,a⟩
     by_cases o:j=i
     ·rw[o];exact hq
     ·exact c j (by omega) d
 rcases l m 0 f (by omega) k with⟨j,_,a,e,d⟩|⟨c,a⟩
 ·exact .inl ⟨j,a,e,d⟩
 ·exact .inr ⟨λj o=>c j (by omega) o,a⟩
def iJ {b:(A->Option R)->A->Option R} (st:Nat->A) (l:List α) (p:α->Bool) {rf r:Option R} (h:∀G i (a:i<l.length),b G (st i)=if p l[i]=true then rf else G (st (i+1))) (g:∀G,b G (st l.length)=r) (j:l.length<f:=by omega):aH b f (st 0)=if l.any p=true then rf else r:=by
 rcases kG st l.length (λi=>if a:i<l.length then p l[i]else false) (λ_=>rf) (r:=r) (λG i a=>by simp only[a8e a];exact h G i a) g j with⟨i,a,d,e⟩|⟨d,e⟩
 ·simp only[a8e a]at d
  have c:l.any p=true:=a2x.2 ⟨l[i],a0n _,d⟩;rw[e,a0f c]
 ·have c:¬l.any p=true:=by
   intro c;obtain⟨x,k,m⟩:=a2x.1 c;obtain⟨i,a,rfl⟩:=a2h.1 k;have:=d i a;simp only[a8e a]at this;rw[m]at this
   cases this
  rw[e,a0d c]
def fU {β:Type} {b:(A->Option ((Int×Unit)×β))->A->Option ((Int×Unit)×β)} (st:Nat->A) (l:List α) (p:α->Bool) {o:β} (h:∀G i (a:i<l.length),b G (st i)=if p l[i]=true then some (((i:Int),()),o)else G (st (i+1))) (g:∀G,b G (st l.length)=some ((-1,()),o)) (j:l.length<f:=by omega):∃n:Int,aH b f (st 0)=some ((n,()),o)/\decide (n>=0)=l.any p:=by
 rcases kG st l.length (λi=>if a:i<l.length then p l[i]else false) (λi=>some (((i:Int),()),o)) (r:=some ((-1,()),o)) (λG i a=>by simp only[a8e a];exact h G i a) g j with⟨i,a,d,e⟩|⟨d,e⟩
 ·simp only[a8e a]at d
  refine⟨i,e,?_⟩;have c:l.any p=true:=a2x.2 ⟨l[i],a0n _,d⟩;rw[c];simp
 ·refine⟨-1,e,?_⟩
  have c:l.any p=false:=by
   cases c:l.any p with
   |false=>rfl
   |true=>
    obtain⟨x,k,m⟩:=a2x.1 c;obtain⟨i,a,rfl⟩:=a2h.1 k;have:=d i a;simp only[a8e a]at this;rw[m]at this
    cases this
  rw[c];simp
def xW {b:(A->Option R)->A->Option R} (st:Nat->A) (m:Nat) (q:Nat->Bool) {rf r:Option R} (h:∀G i,i<m->b G (st i)=if q i=true then rf else G (st (i+1))) (g:∀G,b G (st m)=r) (j:m<f:=by omega):aH b f (st 0)=if(List.range m).any q=true then rf else r:=by
 rcases kG st m q (λ_=>rf) (r:=r) h g j with⟨i,a,c,e⟩|⟨c,e⟩
 ·rw[e,a0f (a2x.2 ⟨i,a2f.2 a,c⟩)]
 ·rw[e,a0d]
  intro k;obtain⟨i,a,d⟩:=a2x.1 k;rw[c i (a2f.1 a)]at d
  cases d
def aB {i:Nat} (h:i<4611686018427387904:=by omega):wrap .i64 ((i:Int)+1)=((i+1:Nat):Int):=by
 rw[aj (by omega) (by omega)];omega
def mN (l:List α) (q:α->Bool):(l.any λx=> !q x)= !l.all q:=by rw[a6k]
end Go.Pev
namespace Go.Pev
def aq {α:Type} (m:Option α) (Q:α->Prop):Prop:=∃x,m=some x/\Q x
namespace aq
variable {α β:Type} {k:Nat} {Q R:α->Prop}
def ret {x:α} (h:Q x):aq (some x) Q:=⟨x,rfl,h⟩
def mono {m:Option α} (h:aq m Q) (a:∀x,Q x->R x):aq m R:=by
 obtain⟨x,e,b⟩:=h;exact⟨x,e,a x b⟩
def bd {m:Option β} {f:β->Option α} {P:β->Prop} (h:aq m P) (a:∀x,P x->aq (f x) Q):aq (bd k m f) Q:=by
 obtain⟨x,e,b⟩:=h;rw[e,ac];exact a x b
def bind {m:Option β} {f:β->Option α} {P:β->Prop} (h:aq m P) (a:∀x,P x->aq (f x) Q):aq (m.bind f) Q:=by
 obtain⟨x,e,b⟩:=h;rw[e];exact a x b
def br {c:Bool} {x y:Option α} (a:c=true->aq x Q) (b:c=false->aq y Q):aq (br k c x y) Q:=by
 cases c with
 |true=>rw[ai];exact a rfl
 |false=>rw[ah];exact b rfl
def dec {c:Prop} [Decidable c] {x y:Option α} (a:c->aq x Q) (b:¬c->aq y Q):aq (Go.Pev.br k (decide c) x y) Q:=by
 rw[ap];by_cases h:c
 ·rw[a0f h];exact a h
 ·rw[a0d h];exact b h
def chk {c:Prop} [Decidable c] {x:Option α} (h:c) (a:aq x Q):aq (Go.Pev.br k (decide c) x none) Q:=dec (λ_=>a) λn=>absurd h n
def get {l:List β} {i:Nat} {f:β->Option α} (a:i<l.length) (b:∀x,x∈l->l[i]?=some x->aq (f x) Q):aq (Go.Pev.bd k l[i]? f) Q:=by
 rw[a0a a,ac];exact b _ (a0n _) (a0a a)
def jn {f:β->Option α} {y:β} (h:aq (f y) Q):aq (Go.Pev.jn k f y) Q:=by
 rw[ni];exact h
def loop {A:Type} {b:(A->Option α)->A->Option α} (J:A->Prop) (μ:A->Nat) (h:∀G x,J x->(∀y,J y->μ y<μ x->aq (G y) Q)->aq (b G x) Q):∀(f:Nat) (x:A),J x->μ x<f->aq (aH b f x) Q
 |0,x,_,hf=>absurd hf (Nat.not_lt_zero _)
 |f+1,x,hx,hf=>by
  rw[aD];exact h _ x hx λy a c=>loop J μ h f y a (by omega)
end aq
def fV (z:Int): -9223372036854775808<=wrap .i64 z/\wrap .i64 z<=9223372036854775807:=by
 simp[wrap,IntKind.bits,IntKind.signed];omega
def jb {α:Type} (l:List α) (a n:Nat):(aM l a n).length<=n/\(aM l a n).length<=l.length:=by
 simp only[aM,a1h,a2p];omega
def kc {α:Type} {l:List α} {a n:Nat} {x:α} (h:x∈aM l a n):x∈l:=a5u (a3h h)
end Go.Pev
namespace Go.Pev.F
variable {k i n:Nat} {a op b leaf v O x al t:Int} {α:Type} {l K st l' K' r:List Int} {f:Int->Int->Int×Int} {cs:List (Int×Int)} {want:Bool}
def ax (n:Int):Prop:= -9223372036854775808<=n/\n<=9223372036854775807
def gN (n:Int):Int×Int:=if n< -9223372036854775808 then(0,-1)else if 9223372036854775807<n then(0,1)else(n,0)
def dY (a b:Int):Int×Int:=if b=0 then(0,0)else gN (a.tdiv b)
def EV (a b:Int):Int:=if b=0 then 0 else a.tmod b
def jc (n:Int):ax (gN n).1:=by
 unfold gN ax;split
 ·simp
 ·split
  ·simp
  ·simp only;omega
def CS (k:Nat) (b:Bool):xA k (b,())=some ((cond b (-1) 1,()),((),())):=by
 unfold xA
 cases b<;>simp
def HB (k:Nat) (f:ax a) (g:ax b):xk k (a,b,())=some (((gN (a+b)).1,(gN (a+b)).2,()),((),(),())):=by
 obtain⟨h,a1⟩:=f;obtain⟨i,j⟩:=g;unfold xk gN;simp only[ap];by_cases e:b>0
 ·have d:¬b<0:=by omega
  rw[a0f e,a0d d,aj (n:=9223372036854775807-b) (by omega) (by omega)];simp only[a0c,ap];by_cases c:a>9223372036854775807-b
  ·rw[a0f c,ifNegQ,ifPosQ]
  ·rw[a0d c,ifNegQ,ifNegQ,ah,aj (n:=a+b) (by omega) (by omega)]
 ·rw[a0d e]
  simp only[a0c,ah];by_cases d:b<0
  ·rw[a0f d,aj (n:= -9223372036854775808-b) (by omega) (by omega)]
   simp only[a0c,ap];by_cases c:a< -9223372036854775808-b
   ·rw[a0f c,ifPosQ]
   ·rw[a0d c,ifNegQ,ifNegQ,aj (n:=a+b) (by omega) (by omega)]
  ·rw[a0d d]
   simp only[a0c,ah];rw[ifNegQ,ifNegQ,aj (n:=a+b) (by omega) (by omega)]
def HC (k:Nat) (f:ax a) (g:ax b):Hm k (a,b,())=some (((gN (a+b)).1,(gN (a+b)).2,()),((),(),())):=by
 obtain⟨h,a1⟩:=f;obtain⟨i,j⟩:=g;unfold Hm gN;simp only[ap,CS,ac];by_cases e:b>0
 ·have c:¬b<0:=by omega
  rw[a0f e,a0d c,aj (n:=9223372036854775807-b) (by omega) (by omega)];simp only[a0m c];by_cases d:a>9223372036854775807-b
  ·rw[a0f d,ifNegQ,ifPosQ];simp
  ·rw[a0d d,ifNegQ,ifNegQ]
   simp only[a0c,ah];rw[aj (n:=a+b) (by omega) (by omega)]
 ·rw[a0d e]
  by_cases c:b<0
  ·rw[a0f c,aj (n:= -9223372036854775808-b) (by omega) (by omega)]
   simp only[a0c,ap,a0b c];by_cases d:a< -9223372036854775808-b
   ·rw[a0f d,ifPosQ];simp
   ·rw[a0d d,ifNegQ,ifNegQ,aj (n:=a+b) (by omega) (by omega)]
  ·rw[a0d c]
   simp only[a0c,ah];rw[ifNegQ,ifNegQ,aj (n:=a+b) (by omega) (by omega)]
def xX (k:Nat) (f:ax a) (g:ax b):Ev k (a,b,())=some (((gN (a-b)).1,(gN (a-b)).2,()),((),(),())):=by
 obtain⟨h,a1⟩:=f;obtain⟨i,j⟩:=g;unfold Ev gN;simp only[ap];by_cases e:b<0
 ·have d:¬b>0:=by omega
  rw[a0f e,a0d d,aj (n:=9223372036854775807+b) (by omega) (by omega)];simp only[a0c,ap];by_cases c:a>9223372036854775807+b
  ·rw[a0f c,ifNegQ,ifPosQ]
  ·rw[a0d c,ifNegQ,ifNegQ,ah,aj (n:=a-b) (by omega) (by omega)]
 ·rw[a0d e]
  simp only[a0c,ah];by_cases d:b>0
  ·rw[a0f d,aj (n:= -9223372036854775808+b) (by omega) (by omega)]
   simp only[a0c,ap];by_cases c:a< -9223372036854775808+b
   ·rw[a0f c,ifPosQ]
   ·rw[a0d c,ifNegQ,ifNegQ,aj (n:=a-b) (by omega) (by omega)]
  ·rw[a0d d]
   simp only[a0c,ah];rw[ifNegQ,ifNegQ,aj (n:=a-b) (by omega) (by omega)]
def HD (k:Nat) (f:ax a) (g:ax b):Hl k (a,b,())=some (((gN (a-b)).1,(gN (a-b)).2,()),((),(),())):=by
 obtain⟨h,a1⟩:=f;obtain⟨i,j⟩:=g;unfold Hl gN;simp only[ap,CS,ac];by_cases e:b<0
 ·have c:¬b>0:=by omega
  rw[a0f e,a0d c,aj (n:=9223372036854775807+b) (by omega) (by omega)];simp only[a0m c];by_cases d:a>9223372036854775807+b
  ·rw[a0f d,ifNegQ,ifPosQ];simp
  ·rw[a0d d,ifNegQ,ifNegQ]
   simp only[a0c,ah];rw[aj (n:=a-b) (by omega) (by omega)]
 ·rw[a0d e]
  by_cases c:b>0
  ·rw[a0f c,aj (n:= -9223372036854775808+b) (by omega) (by omega)]
   simp only[a0c,ap,a0b c];by_cases d:a< -9223372036854775808+b
   ·rw[a0f d,ifPosQ];simp
   ·rw[a0d d,ifNegQ,ifNegQ,aj (n:=a-b) (by omega) (by omega)]
  ·rw[a0d c]
   simp only[a0c,ah];rw[ifNegQ,ifNegQ,aj (n:=a-b) (by omega) (by omega)]
def cS (a:Int):Int:=if a<0 then-a else a
def pe (a:Int):0<=cS a:=by unfold cS;split<;>omega
def IR (h:ax a):cS a<=9223372036854775808:=by
 obtain⟨b,c⟩:=h;unfold cS;split<;>omega
def mO (k:Nat) (h:ax a):vd k (a,())=some ((cS a,()),((),())):=by
 obtain⟨c,d⟩:=h;unfold vd cS;simp only[ap];by_cases b:a<0
 ·rw[a0f b,a0f b,rq c b]
  have:wrap .u64 (0-(a+18446744073709551616))= -a:=by
   rw[IntKind.wrap_u64];omega
  rw[this]
 ·rw[a0d b,a0d b,gW]
def mP (k:Nat) (h:ax a):zT k (a,())=some ((cS a,()),((),())):=by
 obtain⟨c,d⟩:=h;unfold zT cS;simp only[ap];by_cases b:a<0
 ·rw[a0f b,a0f b,rq c b]
  have:wrap .u64 (0-(a+18446744073709551616))= -a:=by
   rw[IntKind.wrap_u64];omega
  rw[this]
 ·rw[a0d b,a0d b,gW]
def vM (a b:Int):a*b=if(decide (a<0)==decide (b<0))=true then cS a*cS b else-(cS a*cS b):=by
 unfold cS;by_cases c:a<0<;>by_cases d:b<0<;>simp[c,d,Int.neg_mul,Int.mul_neg]
def HE (k:Nat) (t:ax a) (u:ax b):J0 k (a,b,())=some (((gN (a*b)).1,(gN (a*b)).2,()),((),(),())):=by
 unfold J0;by_cases g:a=0
 ·subst g
  simp[gN]
 have o:(a==0)=false:=by simpa using g
 by_cases q:b=0
 ·subst q
  simp[gN,o]
 have v:(b==0)=false:=by simpa using q
 simp only[o,v,ah,a0c,mO k t,mO k u,ac];have z:0<cS a:=by unfold cS;split<;>omega
 have w:0<cS b:=by unfold cS;split<;>omega
 have x:(!decide (cS b=0))=true:=by
  have:¬cS b=0:=by omega
  rw[a0m this];rfl
 have d:=vM a b;have f:∀M:Int,0<=M->M<=9223372036854775808->(cS a>wrap .u64 (M.tdiv (cS b))↔M<cS a*cS b):=by
  intro M i g;rw[Int.tdiv_eq_ediv_of_nonneg i];have y:0<=M/cS b:=Int.ediv_nonneg i (by omega);have A:M/cS b<=M:=Int.ediv_le_self _ i;rw[gW y];exact Int.ediv_lt_iff_lt_mul w
 have j:=f 9223372036854775808 (by omega) (by omega);have l:=f 9223372036854775807 (by omega) (by omega);rw[x];simp only[ai,ap]
 generalize cS a*cS b=p at d j l
 generalize r:(decide (a<0)==decide (b<0))=s at d⊢
 rw[d]
 cases s with
 |true=>
  simp only[a0o,ah,a1z];have B:0<p\/p<=0:=by omega
  by_cases c:cS a>wrap .u64 ((9223372036854775807:Int).tdiv (cS b))
  ·have:=l.1 c
   simp only[a0f c,a0c,ah,gN];rw[ifNegQ,ifPosQ]
  ·have:=λh=>c (l.2 h)
   have m:0<=p:=by
    have:=a8n (pe a) (pe b);have e:=vM a b;rw[r,a0f rfl]at e;rw[<-d.symm.trans e]at this;simpa using this
   simp only[a0d c,a0c,ah,gN];rw[ifNegQ,ifNegQ,aj (n:=p) (by omega) (by omega)]
 |false=>
  have m:0<=p:=by
   have:=a8n (pe a) (pe b);have e:=vM a b;rw[r,a0d (by simp)]at e;rw[a0d (by simp)]at d;omega
  simp only[a0u,ai,a0t,a1y];by_cases c:cS a>wrap .u64 ((9223372036854775808:Int).tdiv (cS b))
  ·have:=j.1 c
   simp only[a0f c,a0c,ai,gN];rw[ifPosQ]
  ·have:=λh=>c (j.2 h)
   simp only[a0d c,a0c,ah,gN];rw[ifNegQ,ifNegQ,aj (n:= -p) (by omega) (by omega)]
def HF (k:Nat) (u:ax a) (v:ax b):Hn k (a,b,())=some (((gN (a*b)).1,(gN (a*b)).2,()),((),(),())):=by
 have w:=pe a;have x:=IR u;have i:=pe b;have y:=IR v;have j:=vM a b;have l:0<=cS a*cS b:=a8n w i;have m:cS a*cS b<=9223372036854775808*9223372036854775808:=Int.mul_le_mul x y i (by omega);have d:Lb.Mul64 k (cS a,cS b,())=some ((cS a*cS b/18446744073709551616,cS a*cS b % 18446744073709551616,()),((),(),())):=by
  simp only[Lb.Mul64];rw[a0f ⟨⟨w,by omega⟩,i,by omega⟩]
 unfold Hn;simp only[mP k u,mP k v,ac,d,CS]
 generalize cS a*cS b=p at j l m
 generalize (decide (a<0)==decide (b<0))=s at j
 rw[j];have z:wrap .u64 ((9223372036854775807:Int)+1)=9223372036854775808:=by rw[gW];rfl
 rw[z];have f:=Int.mul_ediv_add_emod p 18446744073709551616;have o:=Int.emod_nonneg p (show(18446744073709551616:Int)≠0 by omega);have t:=Int.emod_lt_of_pos p (show(0:Int)<18446744073709551616 by omega)
 generalize p/18446744073709551616=q at f
 generalize p % 18446744073709551616=r at f o t
 simp only[ap]
 cases s with
 |true=>
  simp only[a0o,ah,a1z,gN,a1q];by_cases g:q>0
  ·simp only[a0f g,a0c,ai]
   rw[ifNegQ,ifPosQ]
  ·simp only[a0d g,a0c,ap]
   have c:q=0:=by omega
   subst c;by_cases h:r>9223372036854775807
   ·rw[a0f h,ifNegQ,ifPosQ]
   ·rw[a0d h,ifNegQ,ifNegQ,aj (n:=r) (by omega) (by omega)]
    have:r=p:=by omega
    rw[this]
 |false=>
  simp only[a0u,ai,a0t,a1y,gN,a1c];by_cases g:q>0
  ·simp only[a0f g,a0c,ai]
   rw[ifPosQ]
  ·simp only[a0d g,a0c,ap]
   have c:q=0:=by omega
   subst c;by_cases h:r>9223372036854775808
   ·rw[a0f h,ifPosQ]
   ·rw[a0d h,ifNegQ,ifNegQ]
    have e:wrap .i64 (wrap .u64 (0-r))= -p:=by
     have:r=p:=by omega
     subst this;rw[IntKind.wrap_u64,IntKind.wrap_i64];omega
    rw[e]
def sZ (d:ax a) (g:b≠0) (i:¬b= -1):ax (a.tdiv b):=by
 obtain⟨j,a1⟩:=d;have h:=Int.natAbs_tdiv_le_natAbs a b;by_cases f:a= -9223372036854775808
 ·subst f
  have c:2<=b.natAbs\/b=1:=by omega
  rcases c with c|rfl
  ·have e:((-9223372036854775808:Int).tdiv b).natAbs=(9223372036854775808:Nat)/b.natAbs:=by
    rw[Int.natAbs_tdiv];rfl
   have:(9223372036854775808:Nat)/b.natAbs<=4611686018427387904:=by
    calc (9223372036854775808:Nat)/b.natAbs<=9223372036854775808/2:=Nat.div_le_div_left c (by omega)
     _=4611686018427387904:=rfl
   unfold ax;omega
  ·rw[a8v];unfold ax;omega
 ·unfold ax;omega
def HG (k:Nat) (e:ax a):Ho k (a,b,())=some (((dY a b).1,(dY a b).2,()),((),(),())):=by
 unfold Ho dY;by_cases c:b=0
 ·subst c;simp
 have j:(b==0)=false:=by simpa using c
 have l:(!decide (b=0))=true:=by rw[a0m c];rfl
 dsimp only;rw[j,ah,a0d c,l,ai];by_cases f:a= -9223372036854775808
 ·have g:(a== -9223372036854775808)=true:=by simpa using f
  rw[g,ai];simp only[a0c];by_cases d:b= -1
  ·subst d;subst f
   rw[show((-1:Int)== -1)=true from rfl,ai];rfl
  ·have m:(b== -1)=false:=by simpa using d
   obtain⟨h,i⟩:=sZ e c d;rw[m,ah,aj h i,gN,ifNegQ,ifNegQ]
 ·have g:(a== -9223372036854775808)=false:=by simpa using f
  rw[g,ah];simp only[a0c,ah];have n:ax (a.tdiv b):=by
   by_cases d:b= -1
   ·subst d
    obtain⟨o,a1⟩:=e;have:a.tdiv (-1)= -a:=by rw[Int.tdiv_neg,a8v]
    rw[this];unfold ax;omega
   ·exact sZ e c d
  obtain⟨h,i⟩:=n;rw[aj h i,gN,ifNegQ,ifNegQ]
def HH (k:Nat) (f:ax a):J1 k (a,b,())=some (((dY a b).1,(dY a b).2,()),((),(),())):=by
 unfold J1 dY;by_cases c:b=0
 ·subst c;simp
 have g:(b==0)=false:=by simpa using c
 have h:(!decide (b=0))=true:=by rw[a0m c];rfl
 dsimp only;rw[g,ah,a0d c,h,ai];by_cases d:b= -1
 ·subst d
  have e:((-1:Int)== -1)=true:=rfl;have i:a.tdiv (-1)=0-a:=by rw[Int.tdiv_neg,a8v];omega
  rw[e,ai,xX k (a:=0) ⟨by omega,by omega⟩ f,ac,i]
 ·have e:(b== -1)=false:=by simpa using d
  obtain⟨j,l⟩:=sZ f c d;rw[e,ah,aj j l,gN,ifNegQ,ifNegQ]
def IS (a:Int):a.tmod (-1)=0:=by rw[Int.tmod_neg,Int.tmod_one]
def HI (k:Nat) (a b:Int):Hf k (a,b,())=some ((EV a b,()),((),(),())):=by
 unfold Hf EV;by_cases c:b=0
 ·subst c;simp
 have e:(b==0)=false:=by simpa using c
 have f:(!decide (b=0))=true:=by rw[a0m c];rfl
 dsimp only;rw[e,ah,a0d c,f,ai];simp only[a0c];by_cases d:b= -1
 ·subst d;rw[IS];simp[ai]
 ·have g:(b== -1)=false:=by simpa using d
  rw[g,ah]
def HJ (k:Nat) (a b:Int):Ka k (a,b,())=some ((EV a b,()),((),(),())):=by
 unfold Ka EV;by_cases c:b=0
 ·subst c;simp
 have e:(b==0)=false:=by simpa using c
 have f:(!decide (b=0))=true:=by rw[a0m c];rfl
 dsimp only;rw[e,ah,a0d c,f,ai];simp only[a0c];by_cases d:b= -1
 ·subst d;rw[IS];simp[ai]
 ·have g:(b== -1)=false:=by simpa using d
  rw[g,ah]
def A8 (c:ax a):ax (EV a b):=by
 obtain⟨f,a1⟩:=c;unfold EV ax;split
 ·omega
 ·have g:(a.tmod b).natAbs<=a.natAbs:=by rw[Int.natAbs_tmod];exact Nat.mod_le _ _
  by_cases d:0<=a
  ·have e:=Int.tmod_nonneg b d
   omega
  ·have e:a.tmod b= -((-a).tmod b):=by rw[Int.neg_tmod];omega
   have h:=Int.tmod_nonneg b (show 0<= -a by omega);omega
abbrev eN:=List (List UInt8)
abbrev pB:=List UInt8×Int×Unit
abbrev aE:=eN×eN×List pB×Unit
abbrev bq:=Int×Int×Unit
abbrev bc:=Bool×List bq×List bq×Unit
def xY (n:Int):Prop:= -9223372036854775808<=n/\n<=9223372036854775807
structure dG (d:aE):Prop where
 n0:d.1.length<=1048576
 s0:∀x∈d.1,x.length<=1048576
 n1:d.2.1.length<=1048576
 s1:∀x∈d.2.1,x.length<=1048576
 n2:d.2.2.1.length<=1048576
 s2:∀x∈d.2.2.1,x.1.length<=1048576
def keys:eN:=[[118,97,114],[102,108,97,103],[97,114,114,97,121],[105,102],[102,111,114,107],[101,108,115,101],[101,110,100],[119,104,105,108,101],[117,110,114,111,108,108],[97,115,115,101,114,116],[97,115,115,117,109,101],[105,110,112,117,116],[115,112,108,105,116],[109,101,114,103,101],[116,114,117,101],[102,97,108,115,101]]
def eI (b:UInt8):Bool:=decide (97<=b.toNat/\b.toNat<=122)
def qs (s:List UInt8):Bool:=s.all eI&& (decide (1<=s.length/\s.length<=8)&& !keys.contains s)
def Na (k:Nat) (e:1048576<k) (s:List UInt8):xi k (s,())=some ((keys.contains s,()),((),())):=by
 have h:=iJ (b:=xi.l0 k) (λi=>(s,keys,(i:Int),())) keys (λx=>x==s) (rf:=some ((true,()),((),()))) (r:=some ((false,()),((),()))) (λG i c=>by
  have a:((i:Int)<(keys.length:Int)):=by omega
  have d:(0:Int)<=(i:Int)/\((i:Int)<(keys.length:Int)):=by omega
  have g:keys.length=16:=rfl;simp only[xi.l0,ap,a0f a,a0f d,a0i,a0a c,ac];rw[aB]
  cases h:(keys[i]==s)<;>simp) (λG=>by
  have a:¬((keys.length:Int)<(keys.length:Int)):=by omega
  simp only[xi.l0,ap,a0d a]) (f:=k) (by show 16<k;omega)
 unfold xi;refine Eq.trans h ?_
 rw[a8s]
 cases keys.contains s<;>rfl
def KT (k:Nat) (g:1048576<k) (s:List UInt8) (m:s.length<=1048576):xj k (s,())=some ((qs s,()),((),())):=by
 have h:=iJ (b:=xj.l0 k) (λi=>(s,(i:Int),())) s (λb=> !eI b) (rf:=some ((false,()),((),()))) (r:=some ((decide (1<=s.length/\s.length<=8)&& !keys.contains s,()),((),()))) (λG i j=>by
  have d:((i:Int)<(s.length:Int)):=by omega
  have l:(0:Int)<=(i:Int):=by omega
  simp only[xj.l0,ap,a0f d,a0f l,a0i,a0a j,ac];rw[aB];by_cases c1:((s[i].toNat:Int)<97)
  ·have:eI s[i]=false:=by simp[eI];omega
   simp[a0f c1,this]
  ·rw[a0d c1]
   by_cases c2:((s[i].toNat:Int)>122)
   ·have:eI s[i]=false:=by simp[eI];omega
    have a:decide ((s[i].toNat:Int)>122)=true:=a0b c2;simp only[a0c,a,ai,this,a0u,a1z]
   ·have:eI s[i]=true:=by simp[eI];omega
    have a:decide ((s[i].toNat:Int)>122)=false:=a0m c2;simp only[a0c,a,ah,this,a0o,a0t,a1y]) (λG=>by
  have d:¬((s.length:Int)<(s.length:Int)):=by omega
  simp only[xj.l0,ap,a0d d,jt,Na k g,ac];by_cases c:1<=s.length/\s.length<=8
  ·have e:(1:Int)<=(s.length:Int)/\(s.length:Int)<=8:=by omega
   simp only[a0f e,a0c,a0b c,a1n]
  ·have e:¬((1:Int)<=(s.length:Int)/\(s.length:Int)<=8):=by omega
   simp only[a0d e,a0c,a0m c,a3q]) (f:=k)
 unfold xj;refine Eq.trans h ?_
 unfold qs;rw[show s.any (λb=> !eI b)= !s.all eI by rw[a6k]]
 cases s.all eI<;>simp
def HK (k:Nat) (l:eN) (v:List UInt8) (g:l.length<=4194304) (j:4194304<k):∃n:Int,zQ k (l,v,())=some ((n,()),((),(),()))/\decide (n>=0)=l.contains v:=by
 obtain⟨n,c,a⟩:=fU (b:=zQ.l0 k) (λi=>(l,v,(i:Int),())) l (λx=>x==v) (o:=((),(),())) (λG i d=>by
  have a:((i:Int)<(l.length:Int)):=by omega
  have e:(0:Int)<=(i:Int):=by omega
  simp only[zQ.l0,ap,a0f a,a0f e,a0i,a0a d,ac];rw[aB]
  cases h:(l[i]==v)<;>simp) (λG=>by
  have a:¬((l.length:Int)<(l.length:Int)):=by omega
  simp only[zQ.l0,ap,a0d a]) (f:=k)
 refine⟨n,c,?_⟩;rw[a,a8s]
def ln (k:Nat) (l:eN) (v:List UInt8) (j:l.length<=4194304) (m:4194304<k):Ey k (l,v,())=some ((l.contains v,()),((),(),())):=by
 obtain⟨n,d,a⟩:=fU (b:=xp.l0 k) (λi=>(l,v,(l.length:Int),(i:Int),())) l (λx=>x==v) (o:=((),(),())) (λG i e=>by
  have a:((i:Int)<(l.length:Int)):=by omega
  have g:(0:Int)<=(i:Int):=by omega
  simp only[xp.l0,ap,a0f a,a0f g,a0i,a0a e,ac];rw[aB,show(v==l[i])=(l[i]==v)from BEq.comm]
  cases h:(l[i]==v)<;>simp) (λG=>by
  have a:¬((l.length:Int)<(l.length:Int)):=by omega
  simp only[xp.l0,ap,a0d a]) (f:=k)
 unfold Ey xp;have c:aH (xp.l0 k) k (l,v,(l.length:Int),0,())=some ((n,()),((),(),())):=d;simp only[c,ac];rw[a,a8s]
def KU (k:Nat) (a:4194304<k) (s:List UInt8):J2 k (s,())=some ((keys.contains s,()),((),())):=by
 unfold J2;have h:Lb.Fields k ([118,97,114,32,102,108,97,103,32,97,114,114,97,121,32,105,102,32,102,111,114,107,32,101,108,115,101,32,101,110,100,32,119,104,105,108,101,32,117,110,114,111,108,108,32,97,115,115,101,114,116,32,97,115,115,117,109,101,32,105,110,112,117,116,32,115,112,108,105,116,32,109,101,114,103,101,32,116,114,117,101,32,102,97,108,115,101],())=some ((keys,()),((),())):=by
  unfold Lb.Fields;rw[a0f (by decide+kernel)];have:Go.Lib.fields [118,97,114,32,102,108,97,103,32,97,114,114,97,121,32,105,102,32,102,111,114,107,32,101,108,115,101,32,101,110,100,32,119,104,105,108,101,32,117,110,114,111,108,108,32,97,115,115,101,114,116,32,97,115,115,117,109,101,32,105,110,112,117,116,32,115,112,108,105,116,32,109,101,114,103,101,32,116,114,117,101,32,102,97,108,115,101]=keys:=by decide+kernel
  rw[this]
 simp only[h,ac];rw[ln k keys s (by decide) a];simp
def KV (k:Nat) (g:4194304<k) (s:List UInt8) (m:s.length<=1048576):xq k (s,())=some ((qs s,()),((),())):=by
 have h:=iJ (b:=xq.l0 k) (λi=>(s,(s.length:Int),(i:Int),())) s (λb=> !eI b) (rf:=some ((false,()),((),()))) (r:=some ((decide (1<=s.length/\s.length<=8)&& !keys.contains s,()),((),()))) (λG i j=>by
  have d:((i:Int)<(s.length:Int)):=by omega
  have l:(0:Int)<=(i:Int):=by omega
  simp only[xq.l0,MO,ap,a0f d,a0f l,a0i,a0a j,ac];rw[aB];by_cases c1:((s[i].toNat:Int)>=97)
  ·rw[a0f c1]
   by_cases c2:((s[i].toNat:Int)<=122)
   ·have:eI s[i]=true:=by simp[eI];omega
    have a:decide ((s[i].toNat:Int)<=122)=true:=a0b c2;simp only[a0c,a,ac,ah,this,a0o,a0t,a1y]
   ·have:eI s[i]=false:=by simp[eI];omega
    have a:decide ((s[i].toNat:Int)<=122)=false:=a0m c2;simp only[a0c,a,ac,ai,this,a0u,a1z]
  ·rw[a0d c1]
   have:eI s[i]=false:=by simp[eI];omega
   simp only[a0c,ac,ai,this,a0u,a1z]) (λG=>by
  have d:¬((s.length:Int)<(s.length:Int)):=by omega
  simp only[xq.l0,ap,a0d d,dh,KU k g,ac];by_cases c:1<=s.length/\s.length<=8
  ·have e:(1:Int)<=(s.length:Int)/\(s.length:Int)<=8:=by omega
   simp only[a0f e,a0c,a0b c,a1n]
  ·have e:¬((1:Int)<=(s.length:Int)/\(s.length:Int)<=8):=by omega
   simp only[a0d e,a0c,a0m c,a3q]) (f:=k)
 unfold xq;refine Eq.trans h ?_
 unfold qs;rw[show s.any (λb=> !eI b)= !s.all eI by rw[a6k]]
 cases s.all eI<;>simp
def xZ (l:eN) (i:Nat):Bool:= !qs (l.getD i [])||(l.take i).contains (l.getD i [])
def rt (l:eN):Bool:= !(List.range l.length).any (xZ l)
def ya (l:List pB):Bool:= !l.any λa=> !decide (1<=a.2.1/\a.2.1<=16)
def cm (d:aE):eN:=(d.1++d.2.1)++d.2.2.1.map (·.1)
def aO (d:aE):Bool:=decide (d.1.length<=5/\d.2.1.length<=3/\d.2.2.1.length<=2)&& (ya d.2.2.1&& rt (cm d))
def pP {d:aE} (a:dG d):(cm d).length<=3145728/\∀x∈cm d,x.length<=1048576:=by
 have b:=a.n0;have c:=a.n1;have e:=a.n2;refine⟨by simp[cm];omega,λx hx=> ?_⟩;simp only[cm,a0k,a4q]at hx;rcases hx with(hx|hx)|⟨y,hy,rfl⟩
 ·exact a.s0 x hx
 ·exact a.s1 x hx
 ·exact a.s2 y hy
def KW (k:Nat) (d:4194304<k) (l:eN) (s:l.length<=3145728) (g:∀x∈l,x.length<=1048576):aH (uv.l2 k) k (l,0,())=some ((rt l,()),((),())):=by
 have h:=xW (b:=uv.l2 k) (λi=>(l,(i:Int),())) l.length (xZ l) (rf:=some ((false,()),((),()))) (r:=some ((true,()),((),()))) (λG i c=>by
  have a:((i:Int)<(l.length:Int)):=by omega
  have j:(0:Int)<=(i:Int)/\(i:Int)<(l.length:Int):=by omega
  have m:(0:Int)<=(i:Int)/\(i:Int)<=(l.length:Int):=by omega
  have e:aM l ((0:Int).toNat) (i-(0:Int).toNat)=l.take i:=by simp[aM]
  obtain⟨n,o,p⟩:=HK k (l.take i) l[i] (by simp;omega) d;have q:l.getD i []=l[i]:=by simp[List.getD,a0a c]
  simp only[uv.l2,ap,a0f a,a0f j,a0f m,a0i,a0a c,ac,KT k (by omega) l[i] (g _ (a0n _)),e,o,p];rw[aB,xZ,q]
  cases qs l[i]<;>cases (l.take i).contains l[i]<;>simp) (λG=>by
  have a:¬((l.length:Int)<(l.length:Int)):=by omega
  simp only[uv.l2,ap,a0d a]) (f:=k)
 refine Eq.trans h ?_
 unfold rt
 cases (List.range l.length).any (xZ l)<;>rfl
def gX (k:Nat) (l:4194304<k) (d:aE) (m:dG d):uv k (d,())=some ((aO d,()),((),())):=by
 unfold uv aO;simp only[ap];by_cases g:(d.1.length:Int)>5
 ·rw[a0f g]
  have:decide (d.1.length<=5/\d.2.1.length<=3/\d.2.2.1.length<=2)=false:=by simp;omega
  simp[this]
 rw[a0d g];by_cases c1:(d.2.1.length:Int)>3
 ·rw[a0f c1]
  have:decide (d.1.length<=5/\d.2.1.length<=3/\d.2.2.1.length<=2)=false:=by simp;omega
  simp[this]
 rw[a0d c1];by_cases c2:(d.2.2.1.length:Int)>2
 ·have:decide (d.1.length<=5/\d.2.1.length<=3/\d.2.2.1.length<=2)=false:=by simp;omega
  have c:decide ((d.2.2.1.length:Int)>2)=true:=a0b c2;simp only[a0c,c,ai,this,a3q]
 have c:decide ((d.2.2.1.length:Int)>2)=false:=a0m c2;have n:decide (d.1.length<=5/\d.2.1.length<=3/\d.2.2.1.length<=2)=true:=by simp;omega
 simp only[a0c,c,ah,n,a1n];have l1:(([]:List (List UInt8)).length+d.1.length)*16<=ag:=by simp[ag];omega
 have l2:((([]:List (List UInt8))++d.1).length+d.2.1.length)*16<=ag:=by simp[ag];omega
 rw[a0f l1,a0f l2];obtain⟨o,p⟩:=pP m;have h:=iJ (b:=uv.l0 k) (λi=>((d.1,d.2.1,d.2.2.1,()),((([]:List (List UInt8))++d.1)++d.2.1)++(d.2.2.1.take i).map (·.1),(i:Int),())) d.2.2.1 (λa=> !decide (1<=a.2.1/\a.2.1<=16)) (rf:=some ((false,()),((),()))) (r:=some ((rt (cm d),()),((),()))) (λG i j=>by
  have e:((i:Int)<(d.2.2.1.length:Int)):=by omega
  have q:(0:Int)<=(i:Int):=by omega
  have s:(((([]:List (List UInt8))++d.1)++d.2.1++(d.2.2.1.take i).map (·.1)).length+([d.2.2.1[i].1]:List (List UInt8)).length)*16<=ag:=by simp[ag];omega
  simp only[uv.l0,ap,a0f e,a0f q,a0i,a0a j,ac,jt,a0f s];rw[aB,<-a2t j,a3r,a1u (bs:=List.map _ _)]
  cases decide (1<=d.2.2.1[i].2.1/\d.2.2.1[i].2.1<=16)<;>simp) (λG=>by
  have e:¬((d.2.2.1.length:Int)<(d.2.2.1.length:Int)):=by omega
  simp only[uv.l0,ap,a0d e,a1i];exact KW k l (cm d) o p) (f:=k)
 simp only[List.take_zero,a4a,a2b]at h;refine Eq.trans h ?_
 unfold ya
 cases d.2.2.1.any (λa=> !decide (1<=a.2.1/\a.2.1<=16))<;>simp
def s3 {l:List eN} (a:i<l.length):(l.take (i+1)).flatten=(l.take i).flatten++l[i]:=by
 rw[<-a2t a,a4t];simp
def IT (l:List eN) (i:Nat):(l.take i).flatten.length<=l.flatten.length:=by
 conv=>rhs;rw[<-a3u i l,a4t,a0j]
 omega
def KX (k:Nat) (l:List eN) (g:l.length<k) (n:k<=4611686018427387903) (o:l.flatten.length<=4194304):Ew k (l,())=some ((l.flatten,()),((),())):=by
 unfold Ew;have a:aH (Ew.l2 k) k ([],l,(l.length:Int),0,())=some ((l.flatten,()),((),())):=by
  have h:=bg (b:=Ew.l2 k) (λi=>((l.take i).flatten,l,(l.length:Int),(i:Int),())) l.length (r:=some ((l.flatten,()),((),()))) (λG i c=>by
   have a:((i:Int)<(l.length:Int)):=by omega
   have d:(0:Int)<=(i:Int):=by omega
   have j:=IT l (i+1);rw[s3 c,a0j]at j;have f:((l.take i).flatten.length+l[i].length)*16<=ag:=by simp only[ag];omega
   simp only[Ew.l2,ap,a0f a,a0f d,a0i,a0a c,ac,a0f f];rw[aB,s3 c]) (λG=>by
   have a:¬((l.length:Int)<(l.length:Int)):=by omega
   simp only[Ew.l2,ap,a0d a,a1i]) g
  exact h
 have h:=bg (b:=Ew.l0 k) (λi=>(l,((l.take i).flatten.length:Int),l,(l.length:Int),(i:Int),())) l.length (r:=some ((l.flatten,()),((),()))) (λG i c=>by
  have a:((i:Int)<(l.length:Int)):=by omega
  have d:(0:Int)<=(i:Int):=by omega
  have j:=IT l (i+1);have m:(l.take (i+1)).flatten.length=(l.take i).flatten.length+l[i].length:=by rw[s3 c,a0j]
  have e:wrap .i64 (((l.take i).flatten.length:Int)+(l[i].length:Int))=((l.take (i+1)).flatten.length:Int):=by
   rw[aj (by omega) (by omega),m];omega
  have f:¬(((l.take (i+1)).flatten.length:Int)<0):=by omega
  simp only[Ew.l0,ap,a0f a,a0f d,a0i,a0a c,ac,e,a0d f];rw[aB]) (λG=>by
  have d:¬((l.length:Int)<(l.length:Int)):=by omega
  have f:0<=(l.flatten.length:Int)/\(l.flatten.length:Int)*((16:Nat):Int)<=140737488355328:=by omega
  simp only[Ew.l0,ap,a0d d,a1i,Lb.slices_Grow_string_string,sJ,a0f f,ac];exact a) g
 exact h
def Nb (k:Nat) (o:4194304<k) (a:k<=4611686018427387903) (d:aE) (c:dG d):xn k (d,())=some ((cm d,()),((),())):=by
 have p:=c.n0;have q:=c.n1;have n2:=c.n2;have e:([d.1,d.2.1]:List eN).flatten=d.1++d.2.1:=by simp
 unfold xn;have j:=KX k [d.1,d.2.1] (by show 2<k;omega) a (by rw[e];simp;omega);rw[e]at j;simp only[j,ac];have h:=bg (b:=xn.l0 k) (λi=>((d.1++d.2.1)++(d.2.2.1.take i).map (·.1),d.2.2.1,(d.2.2.1.length:Int),(i:Int),())) d.2.2.1.length (r:=some ((cm d,()),((),()))) (λG i l=>by
  have g:((i:Int)<(d.2.2.1.length:Int)):=by omega
  have m:(0:Int)<=(i:Int):=by omega
  have n:((((d.1++d.2.1)++(d.2.2.1.take i).map (·.1)).length)+([d.2.2.1[i].1]:List (List UInt8)).length)*16<=ag:=by simp[ag];omega
  simp only[xn.l0,ap,a0f g,a0f m,a0i,a0a l,ac,a0f n];rw[aB,<-a2t l,a3r,a1u (bs:=List.map _ _)];rfl) (λG=>by
  have g:¬((d.2.2.1.length:Int)<(d.2.2.1.length:Int)):=by omega
  simp only[xn.l0,ap,a0d g,a1i];rfl) (f:=k) (by omega)
 simp only[List.take_zero,a4a,a2b]at h;exact h
def CT (k:Nat) (l:List pB) (j:l.length<=1048576) (m:4194304<k):J3 k (l,(()),())=some ((ya l,()),((),(()),())):=by
 obtain⟨n,e,c⟩:=fU (b:=xr.l0 k) (λi=>(l,(((()),()),()),(l.length:Int),(i:Int),())) l (λa=> !decide (1<=a.2.1/\a.2.1<=16)) (o:=((),(((()),()),()),())) (λG i g=>by
  have c:((i:Int)<(l.length:Int)):=by omega
  have h:(0:Int)<=(i:Int):=by omega
  simp only[xr.l0,MQ,MP,dh,ap,a0f c,a0f h,a0i,a0a g,ac];rw[aB]
  cases decide (1<=l[i].2.1/\l[i].2.1<=16)<;>simp) (λG=>by
  have c:¬((l.length:Int)<(l.length:Int)):=by omega
  simp only[xr.l0,ap,a0d c]) (f:=k)
 unfold J3 MR xr;have d:aH (xr.l0 k) k (l,(((()),()),()),(l.length:Int),0,())=some ((n,()),((),(((()),()),()),())):=e;simp only[d,ac,c];rfl
def pQ (k:Nat) (a:4194304<k) (e:k<=4611686018427387903) (d:aE) (c:dG d):IL k (d,())=some ((aO d,()),((),())):=by
 have n2:=c.n2;obtain⟨q,m⟩:=pP c;unfold IL;simp only[Nb k a e d c,ac];have h:=xW (b:=IL.l0 k) (λi=>((d.1,d.2.1,d.2.2.1,()),cm d,cm d,((cm d).length:Int),(i:Int),())) (cm d).length (xZ (cm d)) (rf:=some ((false,()),((),()))) (r:=some ((decide (d.1.length<=5/\d.2.1.length<=3/\d.2.2.1.length<=2)&& ya d.2.2.1,()),((),()))) (λG i j=>by
  have g:((i:Int)<((cm d).length:Int)):=by omega
  have n:(0:Int)<=(i:Int):=by omega
  have o:(0:Int)<=(i:Int)/\(i:Int)<=((cm d).length:Int):=by omega
  have p:(cm d).getD i []=(cm d)[i]:=by simp[List.getD,a0a j]
  simp only[IL.l0,ap,a0f g,a0f n,a0f o,a0i,a0a j,ac,KV k a (cm d)[i] (m _ (a0n _)),ln k ((cm d).take i) (cm d)[i] (by simp;omega) a];rw[aB,xZ,p]
  cases qs (cm d)[i]<;>cases ((cm d).take i).contains (cm d)[i]<;>simp) (λG=>by
  have g:¬(((cm d).length:Int)<((cm d).length:Int)):=by omega
  simp only[IL.l0,ap,a0d g,CT k d.2.2.1 c.n2 a,ac];by_cases l:d.1.length<=5
  ·rw[ifPosQ]
   by_cases c1:d.2.1.length<=3
   ·rw[ifPosQ]
    by_cases c2:d.2.2.1.length<=2
    ·rw[ifPosQ]
     simp[l,c1,c2]
    ·rw[ifNegQ]
     simp[c2]
   ·rw[ifNegQ]
    simp[c1]
  ·rw[ifNegQ]
   simp[l]) (f:=k)
 refine Eq.trans h ?_
 unfold aO rt
 cases (List.range (cm d).length).any (xZ (cm d))<;>simp
structure f6 (e:bc):Prop where
 n1:e.2.1.length<=1048576
 n2:e.2.2.1.length<=1048576
abbrev P4:Kd:= .cons (.int .i64) (.cons (.int .i64) .nil)
abbrev QD:Kd:= .cons .bool (.cons (.sl false P4) (.cons (.sl false P4) .nil))
def bo (a:bq):Bool:=decide (a.1<=a.2.1)
def ru (l:List bq):Bool:= !l.any λa=> !bo a
def eP (d:aE) (e:bc):Bool:=cond e.1 (((e.2.1.length:Int)==(d.1.length:Int))&& (((e.2.2.1.length:Int)==(d.2.2.1.length:Int))&& (ru e.2.1&& ru e.2.2.1))) (((e.2.1.length:Int)==0)&& ((e.2.2.1.length:Int)==0))
def IU (d:aE) (e:bc):Bool:=aO d&& eP d e
def CU (k:Nat) (l:4194304<k) (d:aE) (m:dG d) (e:bc) (g:f6 e):vl k (d,e,())=some ((IU d e,()),((),(),())):=by
 have p:=g.n1;have n2:=g.n2;unfold vl IU;simp only[gX k l d m,ac]
 cases hdo:aO d with
 |false=>simp
 |true=>
  simp only[a0o,ah,a1n];unfold eP
  cases he1:e.1 with
  |false=>
   simp only[a0u,ai,a1q]
   cases hz:((e.2.1.length:Int)==0)<;>simp
  |true=>
   simp only[a0o,ah,a1c];unfold bne
   cases h1:((e.2.1.length:Int)==(d.1.length:Int))with
   |false=>simp
   |true=>
    simp only[a0o,ah,a1n]
    cases c:((e.2.2.1.length:Int)==(d.2.2.1.length:Int))with
    |false=>simp
    |true=>
     have l1:(([]:List (Int×Int×Unit)).length+e.2.1.length)*16<=ag:=by simp[ag];omega
     have l2:((([]:List (Int×Int×Unit))++e.2.1).length+e.2.2.1.length)*16<=ag:=by simp[ag];omega
     simp only[a0o,a0c,ah,a1n,Hx,ap,a0f l1,a0f l2,ac];have h:=iJ (b:=vl.l0 k) (λi=>(([]++e.2.1)++e.2.2.1,(i:Int),())) (([]++e.2.1)++e.2.2.1) (λa=> !bo a) (rf:=some ((false,()),((),(),()))) (r:=some ((true,()),((),(),()))) (λG i j=>by
      have n:i<e.2.1.length+e.2.2.1.length:=by simpa using j
      have c:((i:Int)<((([]++e.2.1)++e.2.2.1).length:Int)):=by omega
      have o:0<=(i:Int)/\((i:Int)<((([]++e.2.1)++e.2.2.1).length:Int)):=by omega
      simp only[vl.l0,mM,ap,a0f c,a0f o,a0i,a0a j,ac];rw[aB,bo]
      cases decide ((([]++e.2.1)++e.2.2.1)[i].1<=(([]++e.2.1)++e.2.2.1)[i].2.1)<;>simp) (λG=>by
      have c:¬((((([]++e.2.1)++e.2.2.1).length:Nat):Int)<((([]++e.2.1)++e.2.2.1).length:Int)):=by omega
      simp only[vl.l0,ap,a0d c]) (f:=k) (by simp;omega)
     refine Eq.trans h ?_
     unfold ru;rw[a1s,List.any_append]
     cases e.2.1.any (λa=> !bo a)<;>cases e.2.2.1.any (λa=> !bo a)<;>rfl
def ux (k:Nat) (l:List bq) (j:l.length<=1048576) (m:4194304<k):Hr k (l,(()),())=some ((ru l,()),((),(()),())):=by
 obtain⟨n,e,c⟩:=fU (b:=xG.l0 k) (λi=>(l,(((()),()),()),(l.length:Int),(i:Int),())) l (λa=> !bo a) (o:=((),(((()),()),()),())) (λG i g=>by
  have c:((i:Int)<(l.length:Int)):=by omega
  have h:(0:Int)<=(i:Int):=by omega
  simp only[xG.l0,M2,xF,ap,a0f c,a0f h,a0i,a0a g,ac];rw[aB,bo]
  cases decide (l[i].1<=l[i].2.1)<;>simp) (λG=>by
  have c:¬((l.length:Int)<(l.length:Int)):=by omega
  simp only[xG.l0,ap,a0d c]) (f:=k)
 unfold Hr M3 xG;have d:aH (xG.l0 k) k (l,(((()),()),()),(l.length:Int),0,())=some ((n,()),((),(((()),()),()),())):=e;simp only[d,ac,c];rfl
def Nc (k:Nat) (a:4194304<k) (d:aE) (e:bc) (b:f6 e):Kg k (d,e,())=some ((eP d e,()),((),(),())):=by
 unfold Kg eP
 cases he1:e.1 with
 |false=>
  simp only[he1,a0u,ai,a1q]
  cases hz:((e.2.1.length:Int)==0)<;>simp
 |true=>
  simp only[he1,a0o,ah,a1c]
  cases h1:((e.2.1.length:Int)==(d.1.length:Int))with
  |false=>simp
  |true=>
   cases h2:((e.2.2.1.length:Int)==(d.2.2.1.length:Int))with
   |false=>simp
   |true=>
    simp only[ux k _ b.n1 a,ux k _ b.n2 a,ai,ac]
    cases ru e.2.1<;>simp
abbrev jd:=Int×Int×Bool×Int×Unit
def bJ (a b:bq):Bool:=bo a&& bo b
def eu (a:bq) (n:Int):Bool:=decide (a.1<=n/\n<=a.2.1)
def yb (a b:bq):Bool:=bJ a b&& (decide (b.1<=a.1)&& decide (a.2.1<=b.2.1))
def eX (a b:bq):bq:=(if b.1<a.1 then b.1 else a.1,if b.2.1>a.2.1 then b.2.1 else a.2.1,())
def ir (a b:bq):bq:=(if b.1>a.1 then b.1 else a.1,if b.2.1<a.2.1 then b.2.1 else a.2.1,())
def mQ (a b:bq):bq:=cond (bJ a b) (eX a b) (0,0,())
def dR (a b:bq):bq×Bool×Unit:=cond (bJ a b&& bo (ir a b)) (ir a b,true,()) ((0,0,()),false,())
def qt (l:List Int) (b:Int):Int:=l.foldl (λm x=>if x<=b then(if x>m then x else m)else m) (-9223372036854775808)
def oH (l:List Int) (b:Int):Int:=l.foldl (λm x=>if x>=b then(if x<m then x else m)else m) 9223372036854775807
def jX (a b:bq) (l:List Int):bq:=cond (bJ a b&& decide (l.length<=100)) (if b.1<a.1 then qt l b.1 else a.1,if b.2.1>a.2.1 then oH l b.2.1 else a.2.1,()) (0,0,())
def uy (k:Nat) (a:bq):xF k (a,())=some ((bo a,()),((),())):=rfl
def ft (k:Nat) (a:bq):mM k (a,())=some ((bo a,()),((),())):=rfl
def fW (k:Nat) (a b:bq):vK k (a,b,())=some ((bJ a b,()),((),(),())):=by
 simp only[vK,uy,ac,ek,bJ]
 cases bo a<;>rfl
def mR (k:Nat) (a:bq) (n:Int):EF k (a,n,())=some ((eu a n,()),((),(),())):=by
 simp only[EF,dh,ac];rfl
def mS (k:Nat) (a:bq) (n:Int):KL k (a,n,())=some ((eu a n,()),((),(),())):=by
 simp only[KL,ap,eu];by_cases b:a.1<=n<;>by_cases c:n<=a.2.1<;>simp[b,c]
def HL (k:Nat) (a b:bq):Kl k (a,b,())=some ((yb a b,()),((),(),())):=by
 simp only[Kl,fW,ac,ek,yb]
 cases bJ a b
 ·rfl
 ·cases decide (b.1<=a.1)<;>rfl
def HM (k:Nat) (a b:bq):KR k (a,b,())=some ((yb a b,()),((),(),())):=by
 simp only[KR,ft,ac,ek,yb,bJ]
 cases bo a
 ·rfl
 ·cases bo b
  ·rfl
  ·cases decide (b.1<=a.1)<;>rfl
def uz (k:Nat) (a b:bq):EI k (a,b,())=some ((mQ a b,()),((),(),())):=by
 simp only[EI,fW,ac,ek,mQ]
 cases bJ a b<;>rfl
def oI (k:Nat) (a b:bq):zZ k (a,b,())=some ((eX a b,()),((),(),())):=rfl
def jD (k:Nat) (a b:bq):A3 k (a,b,())=some (dR a b,((),(),())):=by
 simp only[A3,fW,ac,ek,dR,uy];rw[show((if b.1>a.1 then b.1 else a.1,if b.2.1<a.2.1 then b.2.1 else a.2.1,()):bq)=ir a b from rfl]
 generalize bo (ir a b)=r
 generalize bJ a b=p
 generalize ir a b=c
 cases p<;>cases r<;>rfl
def lp (k:Nat) (a b:bq):sX k (a,b,())=some (dR a b,((),(),())):=by
 simp only[sX,ft,ac,ek,dR,bJ];rw[show((if b.1>a.1 then b.1 else a.1,if b.2.1<a.2.1 then b.2.1 else a.2.1,()):bq)=ir a b from rfl]
 generalize bo (ir a b)=r
 generalize bo a=p
 generalize bo b=q
 generalize ir a b=c
 cases p<;>cases q<;>cases r<;>rfl
def gu {β:Type} (f:β->α->β) (z:β) (l:List α) (a:i<l.length):(l.take (i+1)).foldl f z=f ((l.take i).foldl f z) l[i]:=by
 rw[a2m a,a3g];rfl
def rv (k:Nat) (b:bq) (t:bq) (a:Int) (l:List Int) (e:l.length<4611686018427387904) (d:l.length<k):aH (EN.l2 k) k (l,(b.1,b.2.1,()),(t.1,t.2.1,()),(a,9223372036854775807,()),0,())=some (((a,oH l b.2.1,()),()),((),(),(),())):=by
 refine bg (λi=>(l,(b.1,b.2.1,()),(t.1,t.2.1,()),(a,oH (l.take i) b.2.1,()),(i:Int),())) l.length (λG i c=> ?_) (λG=> ?_) d
 ·simp only[EN.l2]
  rw[a0b (show(i:Int)<(l.length:Int) by omega),a0b (show(0:Int)<=(i:Int) by omega),ai,ai];simp only[a0i,a0a c,ac,ap,ai,aB (show i<4611686018427387904 by omega)];unfold oH;rw[gu _ _ l c];by_cases h:l[i]>=b.2.1
  ·rw[a0f h,a0f h]
  ·rw[a0d h,a0d h]
 ·simp only[EN.l2]
  rw[a0m (show¬(l.length:Int)<(l.length:Int) by omega),ah,a1i]
def CV (k:Nat) (a b:bq) (t:bq) (c:Int) (l:List Int) (f:l.length<4611686018427387904) (d:l.length<k):aH (EN.l0 k) k (l,(a.1,a.2.1,()),(b.1,b.2.1,()),(t.1,t.2.1,()),(-9223372036854775808,c,()),0,())=some (((qt l b.1,if b.2.1>a.2.1 then oH l b.2.1 else c,()),()),((),(),(),())):=by
 refine bg (λi=>(l,(a.1,a.2.1,()),(b.1,b.2.1,()),(t.1,t.2.1,()),(qt (l.take i) b.1,c,()),(i:Int),())) l.length (λG i e=> ?_) (λG=> ?_) d
 ·simp only[EN.l0]
  rw[a0b (show(i:Int)<(l.length:Int) by omega),a0b (show(0:Int)<=(i:Int) by omega),ai,ai];simp only[a0i,a0a e,ac,ap,ai,aB (show i<4611686018427387904 by omega)];unfold qt;rw[gu _ _ l e];by_cases h:l[i]<=b.1
  ·rw[a0f h,a0f h]
  ·rw[a0d h,a0d h]
 ·simp only[EN.l0]
  rw[a0m (show¬(l.length:Int)<(l.length:Int) by omega),ah,a1i,ap];by_cases h:b.2.1>a.2.1
  ·rw[a0f h,a0f h,rv k b t _ l f d]
  ·rw[a0d h,a0d h]
def CW (a b:bq) (l:List Int) (i:100<k):EN k (a,b,l,())=some ((jX a b l,()),((),(),(),())):=by
 simp only[EN,ft,ac,jX,bJ]
 cases h:bo a
 ·simp only[a0u,ai,a0c,a3q,a1q]
 ·cases h':bo b
  ·simp only[a0u,a0o,ah,ai,a0c,a1n,a3q,a1q]
  ·simp only[a0o,ah,a0c,ap,a1n]
   by_cases f:(l.length:Int)>100
   ·rw[a0f f,a0m (show¬l.length<=100 by omega)]
    simp only[a0c,ai,a1q]
   ·rw[a0d f,a0b (show l.length<=100 by omega)]
    simp only[a1c];have g:l.length<4611686018427387904:=by omega
    have c:l.length<k:=by omega
    by_cases d:b.1<a.1
    ·rw[a0f d,CV k a b (0,0,()) a.2.1 l g c,a0f d]
    ·rw[a0d d,a0d d]
     by_cases e:b.2.1>a.2.1
     ·rw[a0f e,rv k b (0,0,()) a.1 l g c,a0f e]
     ·rw[a0d e,a0d e]
def di (a b:Int):Int:=wrap .i64 (((BitVec.ofInt 64 a|||BitVec.ofInt 64 b).toNat:Int))
def s4:List Int->Int
 |[]=>0
 |x::r=>r.foldl (λm y=>if y<m then y else m) x
def s5:List Int->Int
 |[]=>0
 |x::r=>r.foldl (λm y=>if y>m then y else m) x
def KY (l:List Int) (h:l.length*8<=ag):CI k (l,())=some ((l,()),((),())):=by
 simp only[CI,a0g,a1p,a1s];rw[a0b h];simp only[ai]
 cases l with
 |nil=>simp[nh]
 |cons x r=>simp
def uA (l:List Int) (h:0<l.length) (c:l.length<4611686018427387904) (d:l.length<k):A4 k (l,())=some ((s4 l,()),((),())):=by
 cases l with
 |nil=>simp at h
 |cons x r=>
  simp only[A4];rw[a0m (show¬(((x::r).length:Nat):Int)<1 by simp;omega)];simp only[ah,a5g,a8r,ai,a3l,a1r,ac];have:=bg (b:=A4.l0 k) (λi=>(x::r,(r.take i).foldl (λm y=>if y<m then y else m) x,(((i+1:Nat):Int)),())) r.length (r:=some ((s4 (x::r),()),((),()))) (λG i e=> ?_) (λG=> ?_) (f:=k) (by simp at d;omega)
  ·simpa using this
  ·have a:i+1<(x::r).length:=by simp;omega
   simp only[a0h]at c;simp only[A4.l0];rw[a0b (show((i+1:Nat):Int)<(((x::r).length:Nat):Int) by exact_mod_cast a),a0b (show(0:Int)<=((i+1:Nat):Int) by omega)];simp only[ai,a0i,a0a a,ac,aB (show i+1<4611686018427387904 by omega)];rw[gu _ _ r e];simp
  ·simp only[A4.l0]
   rw[a0m (show¬((r.length+1:Nat):Int)<(((x::r).length:Nat):Int) by simp),ah,a1i];rfl
def uB (l:List Int) (h:0<l.length) (c:l.length<4611686018427387904) (d:l.length<k):A5 k (l,())=some ((s5 l,()),((),())):=by
 cases l with
 |nil=>simp at h
 |cons x r=>
  simp only[A5];rw[a0m (show¬(((x::r).length:Nat):Int)<1 by simp;omega)];simp only[ah,a5g,a8r,ai,a3l,a1r,ac];have:=bg (b:=A5.l0 k) (λi=>(x::r,(r.take i).foldl (λm y=>if y>m then y else m) x,(((i+1:Nat):Int)),())) r.length (r:=some ((s5 (x::r),()),((),()))) (λG i e=> ?_) (λG=> ?_) (f:=k) (by simp at d;omega)
  ·simpa using this
  ·have a:i+1<(x::r).length:=by simp;omega
   simp only[a0h]at c;simp only[A5.l0];rw[a0b (show((i+1:Nat):Int)<(((x::r).length:Nat):Int) by exact_mod_cast a),a0b (show(0:Int)<=((i+1:Nat):Int) by omega)];simp only[ai,a0i,a0a a,ac,aB (show i+1<4611686018427387904 by omega)];rw[gu _ _ r e];simp
  ·simp only[A5.l0]
   rw[a0m (show¬((r.length+1:Nat):Int)<(((x::r).length:Nat):Int) by simp),ah,a1i];rfl
def jE (l:List Int) (a b:Bool) (c:Int):jd:=cond ((l++cond a [-9223372036854775808] []).isEmpty||(l++cond b [9223372036854775807] []).isEmpty) (0,0,false,cond (a||b) (di c 4) c,()) (s4 (l++cond a [-9223372036854775808] []),s5 (l++cond b [9223372036854775807] []),true,cond (a||b) (di c 4) c,())
def OU (l:List Int):((l.length:Int)==0)=l.isEmpty:=by cases l<;>simp;omega
def Ai (l:List Int) (e f:Bool) (g:Int) (o:l.length<1000) (i:l.length+1<k):Km k ((l,e,f,()),g,())=some ((jE l e f g,()),((l,e,f,()),(),())):=by
 have j:=KY (k:=k) l (by unfold ag;omega);have m:∀z:Int,decide ((l.length+([z]:List Int).length)*8<=ag)=true:=λz=>by simp[ag];omega
 have n:∀z:Int,(l++[z]).isEmpty=false:=λz=>by cases l<;>rfl
 have c:∀z:Int,A4 k (l++[z],())=some ((s4 (l++[z]),()),((),())):=λz=>uA _ (by simp) (by simp;omega) (by simpa using i)
 have d:∀z:Int,A5 k (l++[z],())=some ((s5 (l++[z]),()),((),())):=λz=>uB _ (by simp) (by simp;omega) (by simpa using i)
 have a:l.isEmpty=false->A4 k (l,())=some ((s4 l,()),((),())):=λh=>uA _ (by cases l;simp at h;simp) (by omega) (by omega)
 have b:l.isEmpty=false->A5 k (l,())=some ((s5 l,()),((),())):=λh=>uB _ (by cases l;simp at h;simp) (by omega) (by omega)
 unfold Km jE di
 cases e<;>cases f<;>simp only[ai,ah,a0c,j,ac,m,OU,n,c,d,a1c,a1q,Bool.or_true,a8t,a8f,a5s,a2b]<;>cases he:l.isEmpty<;>simp only[he,ai,ah,a0c,a,b,ac,a1c,a1q]
 all_goals rfl
abbrev iK:=List Int×Bool×Bool×Unit
def cK (c:iK) (p:Int×Int):iK:=if p.2<0 then(c.1,true,c.2.2.1,())else if p.2>0 then(c.1,c.2.1,true,())else(c.1++[p.1],c.2.1,c.2.2.1,())
def dH (op:Int->Int->Int×Int) (a b:bq):List (Int×Int):=[op a.1 b.1,op a.1 b.2.1,op a.2.1 b.1,op a.2.1 b.2.1]
def oJ (c:iK) (p:Int×Int):(cK c p).1.length<=c.1.length+1:=by
 unfold cK;split
 ·simp
 ·split<;>simp
def cq:(l:List (Int×Int))->(c:iK)->(l.foldl cK c).1.length<=c.1.length+l.length
 |[],c=>by simp
 |p::l,c=>by
  have a:=cq l (cK c p);have b:=oJ c p;simp only[a1t,a0h];omega
def dL (k:Nat) (c:iK) (n w:Int) (h:c.1.length<1000:=by omega):L3 k ((c.1,c.2.1,c.2.2.1,()),n,w,())=some ((),(cK c (n,w),(),(),())):=by
 obtain⟨l,a,b,⟨⟩⟩:=c;simp only at h;simp only[L3,cK,ap];split
 ·rfl
 ·split
  ·rfl
  ·rw[a0f (by simp[ag];omega)]
def gE (a b:Int):Int×Int:=gN (a+b)
def fD (a b:Int):Int×Int:=gN (a-b)
def gF (a b:Int):Int×Int:=gN (a*b)
def uC (k:Nat) (c:ax a) (_:ax b):Ho k (a,b,())=some (((dY a b).1,(dY a b).2,()),((),(),())):=HG k c
def uD (k:Nat) (c:ax a) (d:ax b):Hm k (a,b,())=some (((gE a b).1,(gE a b).2,()),((),(),())):=HC k c d
def uE (k:Nat) (c:ax a) (d:ax b):Hl k (a,b,())=some (((fD a b).1,(fD a b).2,()),((),(),())):=HD k c d
def uF (k:Nat) (c:ax a) (d:ax b):Hn k (a,b,())=some (((gF a b).1,(gF a b).2,()),((),(),())):=HF k c d
def A9 (n:3<=k) (b:bq) (f:ax b.1) (g:ax b.2.1) (j:_->Option (Unit×(iK×Unit×Unit×Unit×Unit))) (c:iK) (x:Int) (l:ax x) (o:c.1.length<200) (a:List Int) (d e:Int):aH (CH.l2 k j) k ((c.1,c.2.1,c.2.2.1,()),(),(b.1,b.2.1,()),x,a,d,e,[b.1,b.2.1],(([b.1,b.2.1]:List Int).length:Int),0,())=j (([fD x b.1,fD x b.2.1].foldl cK c),(),(b.1,b.2.1,()),a,d,wrap .i64 (e+1),()):=by
 have p:=λi=>cq (([fD x b.1,fD x b.2.1]:List (Int×Int)).take i) c
 refine bg (b:=CH.l2 k j) (λi=>(((([fD x b.1,fD x b.2.1]:List (Int×Int)).take i).foldl cK c|>.1,((([fD x b.1,fD x b.2.1]:List (Int×Int)).take i).foldl cK c).2.1,((([fD x b.1,fD x b.2.1]:List (Int×Int)).take i).foldl cK c).2.2.1,()),(),(b.1,b.2.1,()),x,a,d,e,[b.1,b.2.1],(([b.1,b.2.1]:List Int).length:Int),(i:Int),())) 2 (λG i m=> ?_) (λG=> ?_) (by omega)
 ·match i,m with
  |0,_=>
   simp only[CH.l2];have h:=dL k c (fD x b.1).1 (fD x b.1).2;simp[uE k l f,h,aj]
  |1,_=>
   simp only[CH.l2];have q:=oJ c (fD x b.1);have h:=dL k (cK c (fD x b.1)) (fD x b.2.1).1 (fD x b.2.1).2;simp[uE k l g,h,aj]
 ·simp[CH.l2]
def KZ (j:3<=k) (a b:bq) (f:ax a.1) (g:ax a.2.1) (d:ax b.1) (e:ax b.2.1) (c:iK) (n:c.1.length<100):CH k ((c.1,c.2.1,c.2.2.1,()),a,b,(),())=some ((),((dH fD a b).foldl cK c,(),(),(),())):=by
 simp only[CH];have l:=cq [fD a.1 b.1,fD a.1 b.2.1] c;refine bg (b:=CH.l0 k) (λi=>(((((dH fD a b).take (2*i)).foldl cK c).1,(((dH fD a b).take (2*i)).foldl cK c).2.1,(((dH fD a b).take (2*i)).foldl cK c).2.2.1,()),(),(b.1,b.2.1,()),[a.1,a.2.1],(([a.1,a.2.1]:List Int).length:Int),(i:Int),())) 2 (λG i m=> ?_) (λG=> ?_) (by omega)
 ·match i,m with
  |0,_=>
   simp only[CH.l0];have h:=A9 j b d e G c a.1 f (by omega) [a.1,a.2.1] (([a.1,a.2.1]:List Int).length:Int) 0;simp only[a0h,a0g]at h;rw[show wrap .i64 ((0:Int)+1)=1 from aj (by omega) (by omega)]at h;simp[dH,aj];exact h
  |1,_=>
   simp only[CH.l0];have h:=A9 j b d e G ([fD a.1 b.1,fD a.1 b.2.1].foldl cK c) a.2.1 g (by simp only[a0h,a0g]at l;omega) [a.1,a.2.1] (([a.1,a.2.1]:List Int).length:Int) 1;simp only[a0h,a0g]at h;rw[show wrap .i64 ((1:Int)+1)=2 from aj (by omega) (by omega)]at h;simp[dH,aj];exact h
 ·simp[CH.l0,dH]
def Ba (n:3<=k) (b:bq) (f:ax b.1) (g:ax b.2.1) (j:_->Option (Unit×(iK×Unit×Unit×Unit×Unit))) (c:iK) (x:Int) (l:ax x) (o:c.1.length<200) (a:List Int) (d e:Int):aH (CJ.l2 k j) k ((c.1,c.2.1,c.2.2.1,()),(),(b.1,b.2.1,()),x,a,d,e,[b.1,b.2.1],(([b.1,b.2.1]:List Int).length:Int),0,())=j (([gE x b.1,gE x b.2.1].foldl cK c),(),(b.1,b.2.1,()),a,d,wrap .i64 (e+1),()):=by
 have p:=λi=>cq (([gE x b.1,gE x b.2.1]:List (Int×Int)).take i) c
 refine bg (b:=CJ.l2 k j) (λi=>(((([gE x b.1,gE x b.2.1]:List (Int×Int)).take i).foldl cK c|>.1,((([gE x b.1,gE x b.2.1]:List (Int×Int)).take i).foldl cK c).2.1,((([gE x b.1,gE x b.2.1]:List (Int×Int)).take i).foldl cK c).2.2.1,()),(),(b.1,b.2.1,()),x,a,d,e,[b.1,b.2.1],(([b.1,b.2.1]:List Int).length:Int),(i:Int),())) 2 (λG i m=> ?_) (λG=> ?_) (by omega)
 ·match i,m with
  |0,_=>
   simp only[CJ.l2];have h:=dL k c (gE x b.1).1 (gE x b.1).2;simp[uD k l f,h,aj]
  |1,_=>
   simp only[CJ.l2];have q:=oJ c (gE x b.1);have h:=dL k (cK c (gE x b.1)) (gE x b.2.1).1 (gE x b.2.1).2;simp[uD k l g,h,aj]
 ·simp[CJ.l2]
def K0 (j:3<=k) (a b:bq) (f:ax a.1) (g:ax a.2.1) (d:ax b.1) (e:ax b.2.1) (c:iK) (n:c.1.length<100):CJ k ((c.1,c.2.1,c.2.2.1,()),a,b,(),())=some ((),((dH gE a b).foldl cK c,(),(),(),())):=by
 simp only[CJ];have l:=cq [gE a.1 b.1,gE a.1 b.2.1] c;refine bg (b:=CJ.l0 k) (λi=>(((((dH gE a b).take (2*i)).foldl cK c).1,(((dH gE a b).take (2*i)).foldl cK c).2.1,(((dH gE a b).take (2*i)).foldl cK c).2.2.1,()),(),(b.1,b.2.1,()),[a.1,a.2.1],(([a.1,a.2.1]:List Int).length:Int),(i:Int),())) 2 (λG i m=> ?_) (λG=> ?_) (by omega)
 ·match i,m with
  |0,_=>
   simp only[CJ.l0];have h:=Ba j b d e G c a.1 f (by omega) [a.1,a.2.1] (([a.1,a.2.1]:List Int).length:Int) 0;simp only[a0h,a0g]at h;rw[show wrap .i64 ((0:Int)+1)=1 from aj (by omega) (by omega)]at h;simp[dH,aj];exact h
  |1,_=>
   simp only[CJ.l0];have h:=Ba j b d e G ([gE a.1 b.1,gE a.1 b.2.1].foldl cK c) a.2.1 g (by simp only[a0h,a0g]at l;omega) [a.1,a.2.1] (([a.1,a.2.1]:List Int).length:Int) 1;simp only[a0h,a0g]at h;rw[show wrap .i64 ((1:Int)+1)=2 from aj (by omega) (by omega)]at h;simp[dH,aj];exact h
 ·simp[CJ.l0,dH]
def Bb (n:3<=k) (b:bq) (f:ax b.1) (g:ax b.2.1) (j:_->Option (Unit×(iK×Unit×Unit×Unit×Unit))) (c:iK) (x:Int) (l:ax x) (o:c.1.length<200) (a:List Int) (d e:Int):aH (CK.l2 k j) k ((c.1,c.2.1,c.2.2.1,()),(),(b.1,b.2.1,()),x,a,d,e,[b.1,b.2.1],(([b.1,b.2.1]:List Int).length:Int),0,())=j (([gF x b.1,gF x b.2.1].foldl cK c),(),(b.1,b.2.1,()),a,d,wrap .i64 (e+1),()):=by
 have p:=λi=>cq (([gF x b.1,gF x b.2.1]:List (Int×Int)).take i) c
 refine bg (b:=CK.l2 k j) (λi=>(((([gF x b.1,gF x b.2.1]:List (Int×Int)).take i).foldl cK c|>.1,((([gF x b.1,gF x b.2.1]:List (Int×Int)).take i).foldl cK c).2.1,((([gF x b.1,gF x b.2.1]:List (Int×Int)).take i).foldl cK c).2.2.1,()),(),(b.1,b.2.1,()),x,a,d,e,[b.1,b.2.1],(([b.1,b.2.1]:List Int).length:Int),(i:Int),())) 2 (λG i m=> ?_) (λG=> ?_) (by omega)
 ·match i,m with
  |0,_=>
   simp only[CK.l2];have h:=dL k c (gF x b.1).1 (gF x b.1).2;simp[uF k l f,h,aj]
  |1,_=>
   simp only[CK.l2];have q:=oJ c (gF x b.1);have h:=dL k (cK c (gF x b.1)) (gF x b.2.1).1 (gF x b.2.1).2;simp[uF k l g,h,aj]
 ·simp[CK.l2]
def K2 (j:3<=k) (a b:bq) (f:ax a.1) (g:ax a.2.1) (d:ax b.1) (e:ax b.2.1) (c:iK) (n:c.1.length<100):CK k ((c.1,c.2.1,c.2.2.1,()),a,b,(),())=some ((),((dH gF a b).foldl cK c,(),(),(),())):=by
 simp only[CK];have l:=cq [gF a.1 b.1,gF a.1 b.2.1] c;refine bg (b:=CK.l0 k) (λi=>(((((dH gF a b).take (2*i)).foldl cK c).1,(((dH gF a b).take (2*i)).foldl cK c).2.1,(((dH gF a b).take (2*i)).foldl cK c).2.2.1,()),(),(b.1,b.2.1,()),[a.1,a.2.1],(([a.1,a.2.1]:List Int).length:Int),(i:Int),())) 2 (λG i m=> ?_) (λG=> ?_) (by omega)
 ·match i,m with
  |0,_=>
   simp only[CK.l0];have h:=Bb j b d e G c a.1 f (by omega) [a.1,a.2.1] (([a.1,a.2.1]:List Int).length:Int) 0;simp only[a0h,a0g]at h;rw[show wrap .i64 ((0:Int)+1)=1 from aj (by omega) (by omega)]at h;simp[dH,aj];exact h
  |1,_=>
   simp only[CK.l0];have h:=Bb j b d e G ([gF a.1 b.1,gF a.1 b.2.1].foldl cK c) a.2.1 g (by simp only[a0h,a0g]at l;omega) [a.1,a.2.1] (([a.1,a.2.1]:List Int).length:Int) 1;simp only[a0h,a0g]at h;rw[show wrap .i64 ((1:Int)+1)=2 from aj (by omega) (by omega)]at h;simp[dH,aj];exact h
 ·simp[CK.l0,dH]
def Bc (n:3<=k) (b:bq) (f:ax b.1) (g:ax b.2.1) (j:_->Option (Unit×(iK×Unit×Unit×Unit×Unit))) (c:iK) (x:Int) (l:ax x) (o:c.1.length<200) (a:List Int) (d e:Int):aH (CL.l2 k j) k ((c.1,c.2.1,c.2.2.1,()),(),(b.1,b.2.1,()),x,a,d,e,[b.1,b.2.1],(([b.1,b.2.1]:List Int).length:Int),0,())=j (([dY x b.1,dY x b.2.1].foldl cK c),(),(b.1,b.2.1,()),a,d,wrap .i64 (e+1),()):=by
 have p:=λi=>cq (([dY x b.1,dY x b.2.1]:List (Int×Int)).take i) c
 refine bg (b:=CL.l2 k j) (λi=>(((([dY x b.1,dY x b.2.1]:List (Int×Int)).take i).foldl cK c|>.1,((([dY x b.1,dY x b.2.1]:List (Int×Int)).take i).foldl cK c).2.1,((([dY x b.1,dY x b.2.1]:List (Int×Int)).take i).foldl cK c).2.2.1,()),(),(b.1,b.2.1,()),x,a,d,e,[b.1,b.2.1],(([b.1,b.2.1]:List Int).length:Int),(i:Int),())) 2 (λG i m=> ?_) (λG=> ?_) (by omega)
 ·match i,m with
  |0,_=>
   simp only[CL.l2];have h:=dL k c (dY x b.1).1 (dY x b.1).2;simp[uC k l f,h,aj]
  |1,_=>
   simp only[CL.l2];have q:=oJ c (dY x b.1);have h:=dL k (cK c (dY x b.1)) (dY x b.2.1).1 (dY x b.2.1).2;simp[uC k l g,h,aj]
 ·simp[CL.l2]
def K3 (j:3<=k) (a b:bq) (f:ax a.1) (g:ax a.2.1) (d:ax b.1) (e:ax b.2.1) (c:iK) (n:c.1.length<100):CL k ((c.1,c.2.1,c.2.2.1,()),a,b,(),())=some ((),((dH dY a b).foldl cK c,(),(),(),())):=by
 simp only[CL];have l:=cq [dY a.1 b.1,dY a.1 b.2.1] c;refine bg (b:=CL.l0 k) (λi=>(((((dH dY a b).take (2*i)).foldl cK c).1,(((dH dY a b).take (2*i)).foldl cK c).2.1,(((dH dY a b).take (2*i)).foldl cK c).2.2.1,()),(),(b.1,b.2.1,()),[a.1,a.2.1],(([a.1,a.2.1]:List Int).length:Int),(i:Int),())) 2 (λG i m=> ?_) (λG=> ?_) (by omega)
 ·match i,m with
  |0,_=>
   simp only[CL.l0];have h:=Bc j b d e G c a.1 f (by omega) [a.1,a.2.1] (([a.1,a.2.1]:List Int).length:Int) 0;simp only[a0h,a0g]at h;rw[show wrap .i64 ((0:Int)+1)=1 from aj (by omega) (by omega)]at h;simp[dH,aj];exact h
  |1,_=>
   simp only[CL.l0];have h:=Bc j b d e G ([dY a.1 b.1,dY a.1 b.2.1].foldl cK c) a.2.1 g (by simp only[a0h,a0g]at l;omega) [a.1,a.2.1] (([a.1,a.2.1]:List Int).length:Int) 1;simp only[a0h,a0g]at h;rw[show wrap .i64 ((1:Int)+1)=2 from aj (by omega) (by omega)]at h;simp[dH,aj];exact h
 ·simp[CL.l0,dH]
def bi (a:bq):Prop:=ax a.1/\ax a.2.1
def d8 (cs:List (Int×Int)) (a:Int):jd:=jE (cs.foldl cK ([],false,false,())).1 (cs.foldl cK ([],false,false,())).2.1 (cs.foldl cK ([],false,false,())).2.2.1 a
def jF:jd:=(0,0,false,0,())
def jG (op:Int->Int->Int×Int) (a b:bq):jd:=cond (bJ a b) (d8 (dH op a b) 0) jF
def lq (cs:List (Int×Int)) (a:Int) (h:cs.length<100) (c:200<=k):Km k (((cs.foldl cK ([],false,false,())).1,(cs.foldl cK ([],false,false,())).2.1,(cs.foldl cK ([],false,false,())).2.2.1,()),a,())=some ((d8 cs a,()),(((cs.foldl cK ([],false,false,())).1,(cs.foldl cK ([],false,false,())).2.1,(cs.foldl cK ([],false,false,())).2.2.1,()),(),())):=by
 have b:=cq cs ([],false,false,());simp only[a0g]at b;exact Ai _ _ _ a (by omega) (by omega)
def Nd (e:200<=k) {a b:bq} (c:bi a) (d:bi b):Kn k (a,b,(),())=some ((jG fD a b,()),((),(),(),())):=by
 simp only[Kn,fW,ac,jG]
 cases bJ a b
 ·simp[jF]
 ·have h:=KZ (k:=k) (by omega) a b c.1 c.2 d.1 d.2 ([],false,false,()) (by simp)
  simp only[a0o,ah,h,ac,lq (dH fD a b) 0 (by simp[dH]) e,a1c]
def Nf (e:200<=k) {a b:bq} (c:bi a) (d:bi b):Kq k (a,b,(),())=some ((jG gE a b,()),((),(),(),())):=by
 simp only[Kq,fW,ac,jG]
 cases bJ a b
 ·simp[jF]
 ·have h:=K0 (k:=k) (by omega) a b c.1 c.2 d.1 d.2 ([],false,false,()) (by simp)
  simp only[a0o,ah,h,ac,lq (dH gE a b) 0 (by simp[dH]) e,a1c]
def Ng (e:200<=k) {a b:bq} (c:bi a) (d:bi b):Kt k (a,b,(),())=some ((jG gF a b,()),((),(),(),())):=by
 simp only[Kt,fW,ac,jG]
 cases bJ a b
 ·simp[jF]
 ·have h:=K2 (k:=k) (by omega) a b c.1 c.2 d.1 d.2 ([],false,false,()) (by simp)
  simp only[a0o,ah,h,ac,lq (dH gF a b) 0 (by simp[dH]) e,a1c]
def CX (c:200<=k) {a b:bq} (d:bi a) (e:bi b):Kr k (a,b,())=some ((jG gE a b,()),((),(),())):=by
 simp only[Kr,Nf c d e,ac]
def rx (c:200<=k) {a b:bq} (d:bi a) (e:bi b):EE k (a,b,())=some ((jG fD a b,()),((),(),())):=by
 simp only[EE,Nd c d e,ac]
def CY (c:200<=k) {a b:bq} (d:bi a) (e:bi b):Ku k (a,b,())=some ((jG gF a b,()),((),(),())):=by
 simp only[Ku,Ng c d e,ac]
def cN:bi (0,0,()):=by unfold bi ax;simp
def CZ (b:200<=k) {a:bq} (c:bi a):Ko k (a,())=some ((jG fD (0,0,()) a,()),((),())):=by
 simp only[Ko,rx b cN c,ac]
def cy (b:bq):List bq:=(if b.1<0 then [(b.1,if b.2.1< -1 then b.2.1 else-1,())]else [])++(if b.2.1>0 then [(if b.1>1 then b.1 else 1,b.2.1,())]else [])
def pR (b:bq):Int:=cond (eu b 0) 1 0
def K4 {b:bq} (e:bi b) (d:bo b=true):dR b (-9223372036854775808,-1,())=if b.1<0 then((b.1,if b.2.1< -1 then b.2.1 else-1,()),true,())else((0,0,()),false,()):=by
 obtain⟨⟨g,i⟩,j,k⟩:=e;have f:b.1<=b.2.1:=a0w d;have a:ir b (-9223372036854775808,-1,())=(b.1,if-1<b.2.1 then-1 else b.2.1,()):=by
  unfold ir;simp only;rw[ifNegQ]
 have c:bo ((-9223372036854775808:Int),(-1:Int),())=true:=rfl;unfold dR bJ;rw[d,c,a];by_cases h:b.1<0
 ·rw[a0f h]
  have:bo (b.1,if-1<b.2.1 then-1 else b.2.1,())=true:=a0b (by simp only;split<;>omega);rw[this];simp only[a3t,a1c]
  congr 2
  split<;>split<;>first|rfl|omega|(congr 1;omega)
 ·rw[a0d h]
  have:bo (b.1,if-1<b.2.1 then-1 else b.2.1,())=false:=a0m (by simp only;split<;>omega);rw[this];rfl
def K5 {b:bq} (e:bi b) (d:bo b=true):dR b (1,9223372036854775807,())=if b.2.1>0 then((if b.1>1 then b.1 else 1,b.2.1,()),true,())else((0,0,()),false,()):=by
 obtain⟨⟨g,i⟩,j,k⟩:=e;have f:b.1<=b.2.1:=a0w d;have a:ir b (1,9223372036854775807,())=(if 1>b.1 then 1 else b.1,b.2.1,()):=by
  unfold ir;simp only;rw[a0d (show¬(9223372036854775807<b.2.1) by omega)]
 have c:bo ((1:Int),(9223372036854775807:Int),())=true:=rfl;unfold dR bJ;rw[d,c,a];by_cases h:b.2.1>0
 ·rw[a0f h]
  have:bo (if 1>b.1 then 1 else b.1,b.2.1,())=true:=a0b (by simp only;split<;>omega);rw[this];simp only[a3t,a1c]
  congr 2
  split<;>split<;>first|rfl|omega
 ·rw[a0d h]
  have:bo (if 1>b.1 then 1 else b.1,b.2.1,())=false:=a0m (by simp only;split<;>omega);rw[this];rfl
def uG {b:bq} (a:bi b) (c:bo b=true):EG k (b,())=some ((cy b,pR b,()),((),())):=by
 simp only[EG,jD,ac,K4 a c,K5 a c,mR,cy,pR];by_cases d:b.1<0<;>by_cases e:b.2.1>0<;>simp only[d,e,a1z,a1y]<;>cases eu b 0<;>simp[ag]
def mT {b:bq} (a:bi b):∀x∈cy b,bi x:=by
 obtain⟨⟨c,d⟩,e,f⟩:=a;intro x hx;unfold cy at hx;rcases a0k.1 hx with hx|hx
 ·split at hx
  ·simp only[a0x]at hx
   subst hx;exact⟨⟨c,d⟩,by unfold ax;simp only;split<;>omega⟩
  ·cases hx
 ·split at hx
  ·simp only[a0x]at hx
   subst hx;exact⟨by unfold ax;simp only;split<;>omega,⟨e,f⟩⟩
  ·cases hx
def Bd (b:bq):(cy b).length<=2:=by
 unfold cy;by_cases a:b.1<0<;>by_cases c:b.2.1>0<;>simp only[a,c,a1z,a1y]<;>simp
def Be (a b:bq):List (Int×Int):=(cy b).flatMap (dH dY a)
def ry (a b:bq):jd:=cond (bJ a b) (d8 (Be a b) (pR b)) jF
def Nh (op:Int->Int->Int×Int) (a b:bq):(dH op a b).length=4:=rfl
def s6 (a:bq):(l:List bq)->(l.flatMap (dH dY a)).length=4*l.length
 |[]=>rfl
 |x::l=>by rw[a6o,a0j,s6 a l,Nh,a0h];omega
def C0 (m:200<=k) {a b:bq} (f:bi a) (g:bi b):xL k (a,b,())=some ((ry a b,()),((),(),())):=by
 simp only[xL,fW,ac,ry]
 cases ho:bJ a b
 ·simp[jF]
 ·have c:bo b=true:=by unfold bJ at ho;simp only[a0e]at ho;exact ho.2
  simp only[a0o,ah,uG g c,ac,a1c];have n:=Bd b
  let cs:Nat->iK:=λi=>(((cy b).take i).flatMap (dH dY a)).foldl cK ([],false,false,())
  have d:∀i,(cs i).1.length<=8:=λi=>by
   have j:=cq (((cy b).take i).flatMap (dH dY a)) ([],false,false,());rw[s6,a1h]at j;simp only[a0g]at j;show(List.foldl cK ([],false,false,()) (((cy b).take i).flatMap (dH dY a))).1.length<=8;omega
  refine bg (b:=xL.l0 k) (λi=>((a.1,a.2.1,()),(0,0,false,0,()),pR b,((cs i).1,(cs i).2.1,(cs i).2.2.1,()),cy b,((cy b).length:Int),(i:Int),())) (cy b).length (λG i e=> ?_) (λG=> ?_) (by omega)
  ·simp only[xL.l0]
   rw[a0b (show(i:Int)<((cy b).length:Int) by omega),a0b (show(0:Int)<=(i:Int)/\(i:Int)<((cy b).length:Int) by omega)];have l:=mT g _ (a0n e);have h:=K3 (k:=k) (by omega) (a.1,a.2.1,()) (cy b)[i] f.1 f.2 l.1 l.2 (cs i) (by have:=d i;omega);simp only[ai,a0i,a0a e,ac,h,aB (show i<4611686018427387904 by omega)];have o:cs (i+1)=(dH dY a (cy b)[i]).foldl cK (cs i):=by
    show List.foldl cK _ (((cy b).take (i+1)).flatMap (dH dY a))=_;rw[a2m e,a6c,a3g];simp[cs]
   rw[o]
  ·simp only[xL.l0]
   rw[a0m (show¬((cy b).length:Int)<((cy b).length:Int) by omega),ah];have p:=lq (k:=k) (Be a b) (pR b) (by unfold Be;rw[s6];omega) m;have q:cs (cy b).length=(Be a b).foldl cK ([],false,false,()):=by
    show List.foldl cK _ (((cy b).take (cy b).length).flatMap (dH dY a))=_;rw[a1i];rfl
   rw[q,p];simp only[ac]
def uH (p q:Int×Int):Bool:=decide (p.2<q.2)||(p.2==q.2&& decide (p.1<q.1))
def uI (p q:Int×Int):Bool:=decide (p.2>q.2)||(p.2==q.2&& decide (p.1>q.1))
def jH (cs:List (Int×Int)):Nat->Nat
 |0=>0
 |i+1=>cond (uH (cs.getD i (0,0)) (cs.getD (jH cs i) (0,0))) i (jH cs i)
def jI (cs:List (Int×Int)):Nat->Nat
 |0=>0
 |i+1=>cond (uI (cs.getD i (0,0)) (cs.getD (jI cs i) (0,0))) i (jI cs i)
def OV (cs:List (Int×Int)):Nat->Int
 |0=>0
 |i+1=>cond ((cs.getD i (0,0)).2 !=0) 4 (OV cs i)
def IV (cs:List (Int×Int)):jd:=cond (decide ((cs.getD (jH cs cs.length) (0,0)).2>0)||decide ((cs.getD (jI cs cs.length) (0,0)).2<0)) (0,0,false,OV cs cs.length,()) (cond (decide ((cs.getD (jH cs cs.length) (0,0)).2<0)) (-9223372036854775808) (cs.getD (jH cs cs.length) (0,0)).1,cond (decide ((cs.getD (jI cs cs.length) (0,0)).2>0)) 9223372036854775807 (cs.getD (jI cs cs.length) (0,0)).1,true,OV cs cs.length,())
def vN (cs:List (Int×Int)) (h:0<cs.length):(i:Nat)->i<=cs.length->jH cs i<cs.length
 |0,_=>h
 |i+1,hi=>by
  have:=vN cs h i (by omega);unfold jH
  cases uH (cs.getD i (0,0)) (cs.getD (jH cs i) (0,0))
  ·exact this
  ·simp only[a1c];omega
def vO (cs:List (Int×Int)) (h:0<cs.length):(i:Nat)->i<=cs.length->jI cs i<cs.length
 |0,_=>h
 |i+1,hi=>by
  have:=vO cs h i (by omega);unfold jI
  cases uI (cs.getD i (0,0)) (cs.getD (jI cs i) (0,0))
  ·exact this
  ·simp only[a1c];omega
def oK (cs:List (Int×Int)) (h:i<cs.length):(cs.map (·.1))[i]?=some (cs.getD i (0,0)).1:=by
 simp[List.getD,h]
def oL (cs:List (Int×Int)) (h:i<cs.length):(cs.map (·.2))[i]?=some (cs.getD i (0,0)).2:=by
 simp[List.getD,h]
def K6 (cs:List (Int×Int)) (d:0<cs.length) (h:cs.length<4611686018427387904) (g:cs.length<k):sW k (cs.map (·.1),cs.map (·.2),())=some ((IV cs,()),((),(),())):=by
 simp only[sW];rw[show(((cs.map (·.1)).length:Int)==0)=false by simp;intro e;rw[e]at d;simp at d];simp only[ah];refine bg (b:=sW.l0 k) (λi=>(cs.map (·.1),cs.map (·.2),(0,0,false,0,()),(jH cs i:Int),(jI cs i:Int),(0,0,false,OV cs i,()),(i:Int),())) cs.length (λG i f=> ?_) (λG=> ?_) g
 ·have a:=vN cs d i (by omega)
  have c:=vO cs d i (by omega);simp only[sW.l0];rw[a0b (show(i:Int)<((cs.map (·.1)).length:Int) by simp;omega),a0b (show(0:Int)<=(i:Int) by omega),a0b (show(0:Int)<=(jH cs i:Int) by omega),a0b (show(0:Int)<=(jI cs i:Int) by omega)];simp only[ai,a0i,oK cs f,oL cs f,oK cs a,oL cs a,oK cs c,oL cs c,ac,aB (show i<4611686018427387904 by omega),ek];rw[show jH cs (i+1)=cond (uH (cs.getD i (0,0)) (cs.getD (jH cs i) (0,0))) i (jH cs i)from rfl,show jI cs (i+1)=cond (uI (cs.getD i (0,0)) (cs.getD (jI cs i) (0,0))) i (jI cs i)from rfl,show OV cs (i+1)=cond ((cs.getD i (0,0)).2 !=0) 4 (OV cs i)from rfl];unfold uH uI
  generalize ((cs.getD i (0,0)).2 !=0)=b1
  generalize decide ((cs.getD i (0,0)).2<(cs.getD (jH cs i) (0,0)).2)=b2
  generalize ((cs.getD i (0,0)).2==(cs.getD (jH cs i) (0,0)).2)=b3
  generalize decide ((cs.getD i (0,0)).1<(cs.getD (jH cs i) (0,0)).1)=b4
  generalize decide ((cs.getD i (0,0)).2>(cs.getD (jI cs i) (0,0)).2)=b5
  generalize ((cs.getD i (0,0)).2==(cs.getD (jI cs i) (0,0)).2)=b6
  generalize decide ((cs.getD i (0,0)).1>(cs.getD (jI cs i) (0,0)).1)=b7
  cases b1<;>cases b2<;>cases b3<;>cases b4<;>cases b5<;>cases b6<;>cases b7<;>rfl
 ·have a:=vN cs d cs.length (a1m _)
  have c:=vO cs d cs.length (a1m _);simp only[sW.l0];rw[a0m (show¬(cs.length:Int)<((cs.map (·.1)).length:Int) by simp),a0b (show(0:Int)<=(jH cs cs.length:Int) by omega),a0b (show(0:Int)<=(jI cs cs.length:Int) by omega)];simp only[ai,ah,a0i,oK cs a,oL cs a,oK cs c,oL cs c,ac,ek];unfold IV
  generalize decide ((cs.getD (jH cs cs.length) (0,0)).2>0)=b1
  generalize decide ((cs.getD (jI cs cs.length) (0,0)).2<0)=b2
  generalize decide ((cs.getD (jH cs cs.length) (0,0)).2<0)=b3
  generalize decide ((cs.getD (jI cs cs.length) (0,0)).2>0)=b4
  cases b1<;>cases b2<;>cases b3<;>cases b4<;>rfl
def Bf:(r:List Int)->(x:Int)->(r.foldl (λm y=>if y<m then y else m) x=x\/r.foldl (λm y=>if y<m then y else m) x∈r)/\r.foldl (λm y=>if y<m then y else m) x<=x/\∀y∈r,r.foldl (λm y=>if y<m then y else m) x<=y
 |[],x=>by simp
 |z::r,x=>by
  simp only[a1t];obtain⟨h1,a,b⟩:=Bf r (if z<x then z else x)
  generalize r.foldl (λm y=>if y<m then y else m) (if z<x then z else x)=v at h1 a b
  refine⟨?_,?_,λy hy=> ?_⟩
  ·rcases h1 with h1|h1
   ·by_cases h:z<x
    ·rw[a0f h]at h1;rw[h1];exact .inr (by simp)
    ·rw[a0d h]at h1;exact .inl h1
   ·exact .inr (by simp[h1])
  ·split at a<;>omega
  ·rcases a1j.1 hy with rfl|hy
   ·split at a<;>omega
   ·exact b y hy
def Bg:(r:List Int)->(x:Int)->(r.foldl (λm y=>if y>m then y else m) x=x\/r.foldl (λm y=>if y>m then y else m) x∈r)/\x<=r.foldl (λm y=>if y>m then y else m) x/\∀y∈r,y<=r.foldl (λm y=>if y>m then y else m) x
 |[],x=>by simp
 |z::r,x=>by
  simp only[a1t];obtain⟨h1,a,b⟩:=Bg r (if z>x then z else x)
  generalize r.foldl (λm y=>if y>m then y else m) (if z>x then z else x)=v at h1 a b
  refine⟨?_,?_,λy hy=> ?_⟩
  ·rcases h1 with h1|h1
   ·by_cases h:z>x
    ·rw[a0f h]at h1;rw[h1];exact .inr (by simp)
    ·rw[a0d h]at h1;exact .inl h1
   ·exact .inr (by simp[h1])
  ·split at a<;>omega
  ·rcases a1j.1 hy with rfl|hy
   ·split at a<;>omega
   ·exact b y hy
def pf (h:l≠[]):s4 l∈l/\∀y∈l,s4 l<=y:=by
 cases l with
 |nil=>exact absurd rfl h
 |cons x r=>
  obtain⟨h1,a,b⟩:=Bf r x;refine⟨?_,λy hy=> ?_⟩
  ·rcases h1 with h1|h1
   ·show List.foldl _ x r∈_;rw[h1];simp
   ·exact a3a _ h1
  ·rcases a1j.1 hy with rfl|hy
   ·exact a
   ·exact b y hy
def pg (h:l≠[]):s5 l∈l/\∀y∈l,y<=s5 l:=by
 cases l with
 |nil=>exact absurd rfl h
 |cons x r=>
  obtain⟨h1,a,b⟩:=Bg r x;refine⟨?_,λy hy=> ?_⟩
  ·rcases h1 with h1|h1
   ·show List.foldl _ x r∈_;rw[h1];simp
   ·exact a3a _ h1
  ·rcases a1j.1 hy with rfl|hy
   ·exact a
   ·exact b y hy
def C1 (h:v∈l) (a:∀y∈l,v<=y):s4 l=v:=by
 obtain⟨b,c⟩:=pf (l:=l) (λe=>by rw[e]at h;cases h);have:=c v h;have:=a _ b;omega
def C2 (h:v∈l) (a:∀y∈l,y<=v):s5 l=v:=by
 obtain⟨b,c⟩:=pg (l:=l) (λe=>by rw[e]at h;cases h);have:=c v h;have:=a _ b;omega
def HN (h:∀x,x∈l↔x∈l'):s4 l=s4 l':=by
 by_cases e:l=[]
 ·subst e
  have:l'=[]:=a3o.2 λx a=>by have:=(h x).2 a;cases this
  rw[this]
 ·obtain⟨b,c⟩:=pf e
  exact(C1 ((h _).1 b) λy d=>c y ((h y).2 d)).symm
def HO (h:∀x,x∈l↔x∈l'):s5 l=s5 l':=by
 by_cases e:l=[]
 ·subst e
  have:l'=[]:=a3o.2 λx a=>by have:=(h x).2 a;cases this
  rw[this]
 ·obtain⟨b,c⟩:=pg e
  exact(C2 ((h _).1 b) λy d=>c y ((h y).2 d)).symm
def it (cs:List (Int×Int)):List Int:=(cs.filter λp=>p.2==0).map (·.1)
def s7 (cs:List (Int×Int)):Bool:=cs.any λp=>decide (p.2<0)
def s8 (cs:List (Int×Int)):Bool:=cs.any λp=>decide (p.2>0)
def EW:(cs:List (Int×Int))->(c:iK)->cs.foldl cK c=(c.1++it cs,c.2.1||s7 cs,c.2.2.1||s8 cs,())
 |[],c=>by simp[it,s7,s8]
 |p::cs,c=>by
  rw[a1t,EW cs (cK c p)];unfold cK it s7 s8;simp only[List.any_cons,a5x];by_cases d:p.2<0
  ·have b:¬p.2>0:=by omega
   have a:¬p.2=0:=by omega
   simp[d,b,a]
  ·by_cases b:p.2>0
   ·have a:¬p.2=0:=by omega
    simp[d,b,a]
   ·have a:p.2=0:=by omega
    simp[d,b,a]
def je (cs:List (Int×Int)) (a:Int):d8 cs a=jE (it cs) (s7 cs) (s8 cs) a:=by
 unfold d8;rw[EW];simp
def fL:x∈it cs↔(x,0)∈cs:=by
 unfold it;simp only[a4q,a4v,a3b];constructor
 ·rintro⟨p,⟨a,b⟩,rfl⟩
  have:p=(p.1,0):=by rw[<-b]
  rwa [this]at a
 ·intro h
  exact⟨(x,0),⟨h,rfl⟩,rfl⟩
def pS (h:∀x,x∈l↔x∈l'):l.isEmpty=l'.isEmpty:=by
 cases l with
 |nil=>
  have:l'=[]:=a3o.2 λx b=>by have:=(h x).2 b;cases this
  rw[this]
 |cons a r=>
  cases l' with
  |nil=>exact absurd ((h a).1 (by simp)) (by simp)
  |cons _ _=>rfl
def rz {a:List (Int×Int)} (h:∀p,p∈cs↔p∈a) (e:Int):d8 cs e=d8 a e:=by
 rw[je,je];have f:s7 cs=s7 a:=by
  unfold s7;rw[a3w];simp only[a2x];exact⟨λ⟨p,c,d⟩=>⟨p,(h p).1 c,d⟩,λ⟨p,c,d⟩=>⟨p,(h p).2 c,d⟩⟩
 have g:s8 cs=s8 a:=by
  unfold s8;rw[a3w];simp only[a2x];exact⟨λ⟨p,c,d⟩=>⟨p,(h p).1 c,d⟩,λ⟨p,c,d⟩=>⟨p,(h p).2 c,d⟩⟩
 have i:∀x,x∈it cs↔x∈it a:=λx=>by rw[fL,fL,h]
 have b:∀(z:List Int) x,x∈it cs++z↔x∈it a++z:=λz x=>by rw[a0k,a0k,i]
 unfold jE;rw[f,g,pS (b _),pS (b _),HN (b _),HO (b _)]
def s9 (p q:Int×Int):uH p q=true↔(p.2<q.2\/p.2=q.2/\p.1<q.1):=by
 unfold uH;simp only[a4d,a0e,a0v,a3b]
def ta (p q:Int×Int):uI p q=true↔(p.2>q.2\/p.2=q.2/\p.1>q.1):=by
 unfold uI;simp only[a4d,a0e,a0v,a3b]
def EX (cs:List (Int×Int)):(i j:Nat)->j<i->¬uH (cs.getD j (0,0)) (cs.getD (jH cs i) (0,0))=true
 |0,_,h=>by omega
 |i+1,j,h=>by
  have ih:=EX cs i;unfold jH
  cases hb:uH (cs.getD i (0,0)) (cs.getD (jH cs i) (0,0))with
  |false=>
   simp only[a1q];by_cases e:j=i
   ·subst e;rw[hb];simp
   ·exact ih j (by omega)
  |true=>
   simp only[a1c];by_cases e:j=i
   ·subst e;rw[s9];omega
   ·have a:=ih j (by omega)
    rw[s9]at a hb⊢;omega
def EY (cs:List (Int×Int)):(i j:Nat)->j<i->¬uI (cs.getD j (0,0)) (cs.getD (jI cs i) (0,0))=true
 |0,_,h=>by omega
 |i+1,j,h=>by
  have ih:=EY cs i;unfold jI
  cases hb:uI (cs.getD i (0,0)) (cs.getD (jI cs i) (0,0))with
  |false=>
   simp only[a1q];by_cases e:j=i
   ·subst e;rw[hb];simp
   ·exact ih j (by omega)
  |true=>
   simp only[a1c];by_cases e:j=i
   ·subst e;rw[ta];omega
   ·have a:=ih j (by omega)
    rw[ta]at a hb⊢;omega
def IW (cs:List (Int×Int)):(i:Nat)->i<=cs.length->OV cs i=cond ((cs.take i).any λp=>p.2 !=0) 4 0
 |0,_=>by simp[OV]
 |i+1,h=>by
  have a:i<cs.length:=by omega
  unfold OV;rw[IW cs i (by omega),a2m a,List.any_append];have:cs.getD i (0,0)=cs[i]:=by simp[List.getD,a]
  rw[this];simp only[List.any_cons,List.any_nil,a8t]
  cases (cs.take i).any λp=>p.2 !=0<;>cases cs[i].2 !=0<;>rfl
def EZ (h:i<cs.length):cs.getD i (0,0)∈cs:=by
 have:cs.getD i (0,0)=cs[i]:=by simp[List.getD,h]
 rw[this];exact a0n h
def Px:di 0 4=4:=by unfold di;decide
def HP (cs:List (Int×Int)) (C:0<cs.length) (D:∀p∈cs,ax p.1):IV cs=d8 cs 0:=by
 have f:=EZ (vN cs C cs.length (a1m _));have l:=EZ (vO cs C cs.length (a1m _));have b:∀q∈cs,¬(q.2<(cs.getD (jH cs cs.length) (0,0)).2\/q.2=(cs.getD (jH cs cs.length) (0,0)).2/\q.1<(cs.getD (jH cs cs.length) (0,0)).1):=λq v=>by
  obtain⟨j,o,rfl⟩:=a4b v;have:=EX cs cs.length j o;rw[s9]at this;have e:cs.getD j (0,0)=cs[j]:=by simp[List.getD,o]
  rwa [e]at this
 have a:∀q∈cs,¬(q.2>(cs.getD (jI cs cs.length) (0,0)).2\/q.2=(cs.getD (jI cs cs.length) (0,0)).2/\q.1>(cs.getD (jI cs cs.length) (0,0)).1):=λq v=>by
  obtain⟨j,o,rfl⟩:=a4b v;have:=EY cs cs.length j o;rw[ta]at this;have e:cs.getD j (0,0)=cs[j]:=by simp[List.getD,o]
  rwa [e]at this
 have r:=IW cs cs.length (a1m _);rw[a1i]at r;rw[je];unfold IV jE;rw[r]
 generalize cs.getD (jH cs cs.length) (0,0)=p at f b⊢
 generalize cs.getD (jI cs cs.length) (0,0)=q at l a⊢
 have s:(cs.any λp=>p.2 !=0)=(s7 cs||s8 cs):=by
  rw[a3w];unfold s7 s8;simp only[a4d,a2x,a0v,bne_iff_ne];constructor
  ·rintro⟨x,g,t⟩
   rcases Int.lt_or_gt_of_ne t with h|h
   ·exact .inl ⟨x,g,h⟩
   ·exact .inr ⟨x,g,h⟩
  ·rintro(⟨x,g,t⟩|⟨x,g,t⟩)<;>exact⟨x,g,by omega⟩
 rw[s,Px];have c:s7 cs=decide (p.2<0):=by
  rw[a3w];unfold s7;simp only[a2x,a0v];exact⟨λ⟨x,g,t⟩=>by have:=b x g;omega,λh=>⟨p,f,h⟩⟩
 have i:s8 cs=decide (q.2>0):=by
  rw[a3w];unfold s8;simp only[a2x,a0v];exact⟨λ⟨x,g,t⟩=>by have:=a x g;omega,λh=>⟨q,l,h⟩⟩
 have E:p.2<=q.2:=by have:=a p f;omega
 by_cases c1:p.2>0
 ·
  have w:it cs=[]:=a3o.2 λx z=>by have:=b _ (fL.1 z);simp only at this;omega
  rw[c,w,a0b c1,a0m (show¬p.2<0 by omega)];simp
 ·by_cases c2:q.2<0
  ·have w:it cs=[]:=a3o.2 λx z=>by have:=a _ (fL.1 z);simp only at this;omega
   rw[c,i,w,a0b c2,a0m (show¬q.2>0 by omega)];simp
  ·have k:s4 (it cs++cond (s7 cs) [-9223372036854775808] [])=cond (decide (p.2<0)) (-9223372036854775808) p.1/\(it cs++cond (s7 cs) [-9223372036854775808] []).isEmpty=false:=by
    rw[c];by_cases u:p.2<0
    ·rw[a0b u]
     simp only[a1c];refine⟨C1 (by simp) λy hy=> ?_,by simp⟩;rcases a0k.1 hy with hy|hy
     ·exact(D _ (fL.1 hy)).1
     ·simp at hy;omega
    ·have F:p∈cs:=f
     have A:p=(p.1,0):=by
      have:p.2=0:=by omega
      rw[<-this]
     rw[a0m u];simp only[a1q,a2b];have m:p.1∈it cs:=fL.2 (by rw[<-A];exact F);refine⟨C1 m λy hy=> ?_,by cases h:it cs;rw[h]at m;cases m;rfl⟩;have:=b _ (fL.1 hy);simp only at this;omega
   have d:s5 (it cs++cond (s8 cs) [9223372036854775807] [])=cond (decide (q.2>0)) 9223372036854775807 q.1/\(it cs++cond (s8 cs) [9223372036854775807] []).isEmpty=false:=by
    rw[i];by_cases u:q.2>0
    ·rw[a0b u]
     simp only[a1c];refine⟨C2 (by simp) λy hy=> ?_,by simp⟩;rcases a0k.1 hy with hy|hy
     ·exact(D _ (fL.1 hy)).2
     ·simp at hy;omega
    ·have B:q=(q.1,0):=by
      have:q.2=0:=by omega
      rw[<-this]
     rw[a0m u];simp only[a1q,a2b];have n:q.1∈it cs:=fL.2 (by rw[<-B];exact l);refine⟨C2 n λy hy=> ?_,by cases h:it cs;rw[h]at n;cases n;rfl⟩;have:=a _ (fL.1 hy);simp only at this;omega
   rw[k.1,k.2,d.1,d.2,a0m c1,a0m c2]
def uJ (k:Nat) (O:Int) (f:Int->Int->Int×Int):Prop:=∀x y,ax x->ax y->CP k (O,x,y,())=some (((f x y).1,(f x y).2,()),((),(),(),()))/\ax (f x y).1
def OX (k:Nat):uJ k 43 gE:=λx y a b=>⟨by simp[CP,HB k a b,gE],jc _⟩
def OY (k:Nat):uJ k 45 fD:=λx y a b=>⟨by simp[CP,xX k a b,fD],jc _⟩
def OZ (k:Nat):uJ k 42 gF:=λx y a b=>⟨by simp[CP,HE k a b,gF],jc _⟩
def IX (k:Nat):uJ k 47 dY:=λx y a b=>⟨by simp[CP,HH k a],by
 unfold dY;split
 ·simp[ax]
 ·exact jc _⟩
def eO (op:Int->Int->Int×Int) (a b:bq):List (Int×Int):=[op a.1 b.1,op a.2.1 b.1,op a.1 b.2.1,op a.2.1 b.2.1]
def Ni (p:5<=k) (l:uJ k O f) (a b:bq) (m:bi a) (n:bi b) (d:List bq) (c:jd) (e os:List Int) (q:e.length<100) (s:os.length<100) (i:Int)
 (h:_->Option ((jd×Unit)×d7)):
 aH (xQ.l2 k h) k (O,d,(a.1,a.2.1,()),(c.1,c.2.1,c.2.2.1,c.2.2.2.1,()),e,os,i,(b.1,b.2.1,()),0,())=h (O,d,(a.1,a.2.1,()),(c.1,c.2.1,c.2.2.1,c.2.2.2.1,()),e++(eO f a b).map (·.1),os++(eO f a b).map (·.2),wrap .i64 (i+1),()):=by
 suffices key:aH (xQ.l2 k h) k (O,d,(a.1,a.2.1,()),(c.1,c.2.1,c.2.2.1,c.2.2.2.1,()),e++[],os++[],i,(b.1,b.2.1,()),0,())=h (O,d,(a.1,a.2.1,()),(c.1,c.2.1,c.2.2.1,c.2.2.2.1,()),e++(eO f a b).map (·.1),os++(eO f a b).map (·.2),wrap .i64 (i+1),()) by
  rwa [a2b,a2b]at key
 refine bg (b:=xQ.l2 k h) (f:=k) (r:=h (O,d,(a.1,a.2.1,()),(c.1,c.2.1,c.2.2.1,c.2.2.2.1,()),e++(eO f a b).map (·.1),os++(eO f a b).map (·.2),wrap .i64 (i+1),())) (λj=>(O,d,(a.1,a.2.1,()),(c.1,c.2.1,c.2.2.1,c.2.2.2.1,()),e++((eO f a b).take j).map (·.1),os++((eO f a b).take j).map (·.2),i,(b.1,b.2.1,()),(j:Int),())) 4 ?_ ?_ (by omega)
 ·intro G j o
  match j,o with
  |0,_=>
   have g:=(l a.1 b.1 m.1 n.1).1;simp only[xQ.l2];simp[g,aj,eO,ap];rw[a0f (by unfold ag;omega),a0f (by unfold ag;omega)]
  |1,_=>
   have g:=(l a.2.1 b.1 m.2 n.1).1;simp only[xQ.l2];simp[g,aj,eO,ap];rw[a0f (by unfold ag;omega),a0f (by unfold ag;omega)]
  |2,_=>
   have g:=(l a.1 b.2.1 m.1 n.2).1;simp only[xQ.l2];simp[g,aj,eO,ap];rw[a0f (by unfold ag;omega),a0f (by unfold ag;omega)]
  |3,_=>
   have g:=(l a.2.1 b.2.1 m.2 n.2).1;simp only[xQ.l2];simp[g,aj,eO,ap];rw[a0f (by unfold ag;omega),a0f (by unfold ag;omega)]
 ·intro G
  simp[xQ.l2,eO]
def ph (f:Int->Int->Int×Int) (a:bq):(l:List bq)->(l.flatMap (eO f a)).length=4*l.length
 |[]=>rfl
 |x::l=>by rw[a6o,a0j,ph f a l,a0h];simp only[eO,a0h,a0g];omega
def K7 (cs:List (Int×Int)) (c:cs.length<1000) (a:cs.length<k) (b:∀p∈cs,ax p.1):sW k (cs.map (·.1),cs.map (·.2),())=some ((d8 cs 0,()),((),(),())):=by
 cases cs with
 |nil=>simp[sW,d8,jE]
 |cons p r=>rw[K6 (p::r) (by simp) (by omega) a,HP (p::r) (by simp) b]
def HQ (c:uJ k O f) {a b:bq} (d:bi a) (e:bi b):∀p∈eO f a b,ax p.1:=by
 intro p g;simp only[eO,a1j,a3m,a5y]at g;rcases g with rfl|rfl|rfl|rfl
 ·exact(c _ _ d.1 e.1).2
 ·exact(c _ _ d.2 e.1).2
 ·exact(c _ _ d.1 e.2).2
 ·exact(c _ _ d.2 e.2).2
def Nj (q:50<=k) (e:uJ k O f) (a:bq) (g:bi a) (l:List bq) (r:l.length<=4) (j:∀x∈l,bi x):xQ k (O,a,l,())=some ((d8 (l.flatMap (eO f a)) 0,()),((),(),(),())):=by
 simp only[xQ];refine bg (b:=xQ.l0 k) (λi=>(O,l,(a.1,a.2.1,()),(0,0,false,0,()),((l.take i).flatMap (eO f a)).map (·.1),((l.take i).flatMap (eO f a)).map (·.2),(i:Int),())) l.length (λG i c=> ?_) (λG=> ?_) (by omega)
 ·simp only[xQ.l0]
  rw[a0b (show(i:Int)<(l.length:Int) by omega),a0b (show(0:Int)<=(i:Int) by omega)];simp only[ai,a0i,a0a c,ac];have m:((l.take i).flatMap (eO f a)).length<=16:=by rw[ph,a1h];omega
  have h:=Ni (k:=k) (by omega) e a l[i] g (j _ (a0n c)) l (0,0,false,0,()) (((l.take i).flatMap (eO f a)).map (·.1)) (((l.take i).flatMap (eO f a)).map (·.2)) (by simp only[a4e];omega) (by simp only[a4e];omega) (i:Int) G;rw[h,aB (show i<4611686018427387904 by omega)]
  congr 1
  rw[a2m c,a6c,a3r,a3r];simp
 ·simp only[xQ.l0]
  rw[a0m (show¬(l.length:Int)<(l.length:Int) by omega),ah,a1i];have n:=K7 (k:=k) (l.flatMap (eO f a)) (by rw[ph];omega) (by rw[ph];omega) (λp d=>by
   obtain⟨x,o,d⟩:=a3s.1 d;exact HQ e g (j x o) p d)
  rw[n];simp only[ac]
def yc (f:Int->Int->Int×Int) (a b:bq) (p:Int×Int):p∈eO f a b↔p∈dH f a b:=by
 simp only[eO,dH,a1j,a3m,a5y];constructor<;>(rintro(h|h|h|h)<;>simp[h])
def C3 (c:50<=k) (d:uJ k O f) {a b:bq} (e:bi a) (g:bi b):Ac k (O,a,b,())=some ((jG f a b,()),((),(),(),())):=by
 simp only[Ac,ft,ac,jG,bJ]
 cases bo a
 ·simp[jF]
 ·cases bo b
  ·simp[jF]
  ·have h:=Nj (k:=k) c d a e [b] (by simp) (by simpa using g)
   have i:d8 ([b].flatMap (eO f a)) 0=d8 (dH f a b) 0:=rz (λp=>by simpa using yc f a b p) 0;rw[i]at h;simp[h]
def C4 (c:50<=k) {a b:bq} (d:bi a) (e:bi b):KJ k (a,b,())=some ((jG gE a b,()),((),(),())):=by
 simp only[KJ,C3 c (OX k) d e,ac]
def rA (c:50<=k) {a b:bq} (d:bi a) (e:bi b):EP k (a,b,())=some ((jG fD a b,()),((),(),())):=by
 simp only[EP,C3 c (OY k) d e,ac]
def C5 (c:50<=k) {a b:bq} (d:bi a) (e:bi b):KK k (a,b,())=some ((jG gF a b,()),((),(),())):=by
 simp only[KK,C3 c (OZ k) d e,ac]
def C6 (b:50<=k) {a:bq} (c:bi a):KQ k (a,())=some ((jG fD (0,0,()) a,()),((),())):=by
 simp only[KQ,rA b cN c,ac]
def rB (k:Nat) (b:bq):CQ k (b,())=some ((cy b,()),((),())):=by
 simp only[CQ,cy,ap];have a:(if(-1:Int)<b.2.1 then(-1)else b.2.1)=if b.2.1< -1 then b.2.1 else-1:=by split<;>split<;>omega
 have c:(if(1:Int)>b.1 then 1 else b.1)=if b.1>1 then b.1 else 1:=by split<;>split<;>omega
 rw[a,c];by_cases c1:b.1<0<;>by_cases c2:b.2.1>0<;>simp[c1,c2,ag]
def QE:di 1 4=5:=by unfold di;decide
def QF:di 4 1=5:=by unfold di;decide
def QG:di 0 1=1:=by unfold di;decide
def Nk (l:List Int) (a b:Bool):jE l a b 1=((jE l a b 0).1,(jE l a b 0).2.1,(jE l a b 0).2.2.1,di (jE l a b 0).2.2.2.1 1,()):=by
 unfold jE;rw[QE,Px]
 cases ((l++cond a [-9223372036854775808] []).isEmpty||(l++cond b [9223372036854775807] []).isEmpty)<;>cases (a||b)<;>simp[QF,QG]
def K8 (cs:List (Int×Int)):d8 cs 1=((d8 cs 0).1,(d8 cs 0).2.1,(d8 cs 0).2.2.1,di (d8 cs 0).2.2.2.1 1,()):=by
 rw[je,je,Nk]
def C7 (e:50<=k) {a b:bq} (f:bi a) (g:bi b):KM k (a,b,())=some ((ry a b,()),((),(),())):=by
 simp only[KM,ft,ac,ry,bJ]
 cases bo a
 ·simp[jF]
 ·cases bo b
  ·simp[jF]
  ·have h:=Nj (k:=k) e (IX k) a f (cy b) (by have:=Bd b;omega) (mT g)
   have c:d8 ((cy b).flatMap (eO dY a)) 0=d8 (Be a b) 0:=rz (λp=>by
    unfold Be;simp only[a3s];exact⟨λ⟨x,d,c⟩=>⟨x,d,(yc dY a x p).1 c⟩,λ⟨x,d,c⟩=>⟨x,d,(yc dY a x p).2 c⟩⟩) 0
   rw[c]at h;simp only[a0o,ah,a0c,rB,ac,h,mS,a3t,a1c];unfold pR
   cases eu b 0
   ·simp only[ah,a1q]
   ·simp only[ai,a1c,K8]
    rfl
def Aj (b:bq):Int:=wrap .i64 (wrap .u64 ((if cS b.2.1>cS b.1 then cS b.2.1 else cS b.1)-1))
def rC (a b:bq):jd:=cond (bJ a b) (cond (cy b).isEmpty (0,0,false,pR b,()) (cond (a.1==a.2.1&& b.1==b.2.1) (EV a.1 b.1,EV a.1 b.1,true,pR b,()) (cond (decide (a.1<0)) (if a.1>wrap .i64 (0-Aj b)then a.1 else wrap .i64 (0-Aj b)) 0,cond (decide (a.2.1>0)) (if a.2.1<Aj b then a.2.1 else Aj b) 0,true,pR b,()))) jF
def jJ (k:Nat) (n:Int):IM k (n,())=some (((n,n,()),()),((),())):=rfl
def E0 (l:List bq):((l.length:Int)==0)=l.isEmpty:=by cases l<;>simp;omega
def C8 {a b:bq} (c:bi b):Kv k (a,b,())=some ((rC a b,()),((),(),())):=by
 simp only[Kv,fW,ac,rC]
 cases ho:bJ a b
 ·simp[jF]
 ·have d:bo b=true:=by unfold bJ at ho;simp only[a0e]at ho;exact ho.2
  simp only[a0o,ah,uG c d,ac,a1c,E0,HJ,jJ,mP k c.1,mP k c.2]
  cases (cy b).isEmpty
  ·cases h1:(a.1==a.2.1)<;>cases h2:(b.1==b.2.1)<;>cases h3:decide (a.1<0)<;>cases h4:decide (a.2.1>0)<;>simp only[ai,ah,a0c,a6j,a8o,a3t,a1c,a1q]<;>rfl
  ·simp only[ai,a1c]
def C9 {a b:bq} (c:bi b):KN k (a,b,())=some ((rC a b,()),((),(),())):=by
 simp only[KN,ft,ac,rC,bJ]
 cases bo a
 ·simp[jF]
 ·cases bo b
  ·simp[jF]
  ·simp only[a0o,ah,a0c,mS,ac,rB,E0,HI,mO k c.1,mO k c.2,a3t,a1c]
   unfold pR
   cases eu b 0<;>cases (cy b).isEmpty<;>cases h1:(a.1==a.2.1)<;>cases h2:(b.1==b.2.1)<;>cases h3:decide (a.1<0)<;>cases h4:decide (a.2.1>0)<;>simp only[ai,ah,a0c,a6j,a8o,a3t,a1c,a1q]<;>rfl
def tb {A R:Type} {b:(A->Option R)->A->Option R} (a:0<k) (x:A):aH b k x=b (aH b (k-1)) x:=by
 cases k with
 |zero=>omega
 |succ n=>rfl
def eA (op:Int) (a b:bq):Bool:=
 if op=13 then decide (a.1<b.2.1)else if op=14 then decide (a.1<=b.2.1)else if op=15 then decide (a.1<=b.2.1)&& decide (b.1<=a.2.1)
 else if op=16 then a.1 !=a.2.1||(b.1 !=b.2.1||a.1 !=b.1)else if op=17 then decide (b.1<a.2.1)else decide (b.1<=a.2.1)
def yd (op:Int) (a b:bq):bq:=cond (decide (13<=op/\op<=18)&& bJ a b) (cond (eA (31-op) a b) 0 1,cond (eA op a b) 1 0,()) (0,0,())
def ye (c:2<=k) (d:13<=op) (g:op<=18) (a b:bq):kY k (op,a,b,())=some ((eA op a b,()),((),(),(),())):=by
 have h:op=13\/op=14\/op=15\/op=16\/op=17\/op=18:=by omega
 unfold kY;rw[tb (by omega)];rcases h with rfl|rfl|rfl|rfl|rfl|rfl
 ·simp[kY.f,eA]
 ·simp[kY.f,eA]
 ·simp only[kY.f,eA,ek]
  cases decide (a.1<=b.2.1)<;>rfl
 ·simp only[kY.f,eA,ek]
  cases (a.1 !=a.2.1)<;>cases (b.1 !=b.2.1)<;>rfl
 ·have e:aH (kY.f k) (k-1) (13,b,a,())=some ((decide (b.1<a.2.1),()),((),(),(),())):=by
   rw[tb (by omega)];simp[kY.f]
  simp[kY.f,rj,eA,e]
 ·have e:aH (kY.f k) (k-1) (14,b,a,())=some ((decide (b.1<=a.2.1),()),((),(),(),())):=by
   rw[tb (by omega)];simp[kY.f]
  simp[kY.f,rj,eA,e]
def uK (k:Nat) (a:13<=op) (b:op<=18):xM k (op,())=some ((31-op,()),((),())):=by
 have h:op=13\/op=14\/op=15\/op=16\/op=17\/op=18:=by omega
 rcases h with rfl|rfl|rfl|rfl|rfl|rfl<;>simp[xM]
def IY (e:13<=op) (f:op<=18) {a b:bq} (c:bJ a b=true) (d:eA (31-op) a b=false):eA op a b=true:=by
 unfold bJ bo at c;simp only[a0e,a0v]at c;have h:op=13\/op=14\/op=15\/op=16\/op=17\/op=18:=by omega
 rcases h with rfl|rfl|rfl|rfl|rfl|rfl<;>simp[eA]at d⊢<;>omega
def yf (c:2<=k) (op:Int) (a b:bq):Kw k (op,a,b,())=some ((yd op a b,()),((),(),(),())):=by
 simp only[Kw,dh,fW,ac,yd];by_cases h:13<=op/\op<=18
 ·rw[a0b h]
  cases ho:bJ a b
  ·simp
  ·simp only[a0o,ah,a0c,uK k h.1 h.2,ac,ye c h.1 h.2,ye c (show 13<=31-op by omega) (show 31-op<=18 by omega),a3t,a1c,M9,jJ]
   cases h3:eA (31-op) a b
   ·rw[IY h.1 h.2 ho h3]
    simp
   ·cases eA op a b<;>simp
 ·rw[a0m h]
  simp
def E3 (k:Nat) (f:13<=op) (g:op<=18) {a b:bq} (d:bJ a b=true):vn k (op,a,b,())=some ((!eA (31-op) a b,()),((),(),(),())):=by
 unfold bJ bo at d;simp only[a0e,a0v]at d;have h:op=13\/op=14\/op=15\/op=16\/op=17\/op=18:=by omega
 rcases h with rfl|rfl|rfl|rfl|rfl|rfl
 ·simp[vn,eA]
  by_cases c:a.2.1<b.1<;>simp[c]<;>omega
 ·simp[vn,eA]
  by_cases c:a.2.1<=b.1<;>simp[c]<;>omega
 ·simp only[vn,eA,cx]
  by_cases c:a.1=a.2.1
  ·have e:((a.1==b.1)&& ((a.2.1==b.2.1)&& true))= !(a.1 !=a.2.1||(b.1 !=b.2.1||a.1 !=b.1)):=by
    rw[a3w];simp;omega
   rw[e,a0f c];simp
  ·simp[c]
 ·simp only[vn,eA,cx]
  by_cases c:a.2.1<b.1
  ·simp[c]<;>omega
  ·by_cases c2:b.2.1<a.1<;>simp[c,c2]<;>omega
 ·simp[vn,eA]
  by_cases c:b.2.1<a.1<;>simp[c]<;>omega
 ·simp[vn,eA]
  by_cases c:b.2.1<=a.1<;>simp[c]<;>omega
def E4 (k:Nat) (a:13<=op) (b:op<=18):xR k (op,())=some ((31-op,()),((),())):=by
 have h:op=13\/op=14\/op=15\/op=16\/op=17\/op=18:=by omega
 rcases h with rfl|rfl|rfl|rfl|rfl|rfl<;>simp[xR,aj]
def E5 (k:Nat) (b:Bool):A1 k (b,())=some ((cond b 1 0,()),((),())):=by
 unfold A1
 cases b<;>simp
def yg (op:Int) (a b:bq):KO k (op,a,b,())=some ((yd op a b,()),((),(),(),())):=by
 simp only[KO,ro,jt,ft,ac,yd];by_cases h:13<=op/\op<=18
 ·rw[a0b h]
  cases ho:bJ a b
  ·unfold bJ at ho
   cases h1:bo a
   ·simp
   ·rw[h1]at ho
    simp only[a1n]at ho;rw[ho];simp
  ·have c:=ho
   unfold bJ at c;simp only[a0e]at c;have d:31-(31-op)=op:=by omega
   simp only[c.1,c.2,a0o,ah,a0c,E3 k h.1 h.2 ho,ac,E4 k h.1 h.2,E3 k (show 13<=31-op by omega) (show 31-op<=18 by omega) ho,E5,d,a3t,a1c]
   cases eA (31-op) a b<;>cases eA op a b<;>simp[aj]
 ·rw[a0m h]
  simp
abbrev Da:=bq×Bool×Unit
def HR:Da:=((0,0,()),false,())
def yh (c:bq):Da:=cond (bo c) (c,true,()) HR
def IZ (a:bq) (h:Int):Da:=yh (a.1,if h<a.2.1 then h else a.2.1,())
def I0 (a:bq) (l:Int):Da:=yh (if l>a.1 then l else a.1,a.2.1,())
def mU (a b:bq):Da:=if b.1≠b.2.1\/b.1≠a.1/\b.1≠a.2.1 then(a,true,())else if a.1=a.2.1 then HR else if b.1=a.1 then((a.1+1,a.2.1,()),true,())else((a.1,a.2.1-1,()),true,())
def kZ (op:Int) (a b:bq):Da:=cond (decide (13<=op/\op<=18)&& bJ a b)
 (
  if op=15 then dR a b else if op=16 then mU a b else if op=14 then IZ a b.2.1 else if op=18 then I0 a b.1
  else if op=13 then(if b.2.1= -9223372036854775808 then HR else IZ a (b.2.1-1))else(if b.1=9223372036854775807 then HR else I0 a (b.1+1))) HR
def yi {a:bq} (b:bi a) (c:bo a=true) {h:Int} (d: -9223372036854775808<=h):dR a (-9223372036854775808,h,())=IZ a h:=by
 have e:bo ((-9223372036854775808:Int),h,())=true:=a0b d;have f:ir a (-9223372036854775808,h,())=(a.1,if h<a.2.1 then h else a.2.1,()):=by
  unfold ir;simp only;rw[a0d (by have:=b.1.1;omega)]
 unfold dR bJ IZ yh;rw[c,e,f];rfl
def yj {a:bq} (b:bi a) (c:bo a=true) {l:Int} (d:l<=9223372036854775807):dR a (l,9223372036854775807,())=I0 a l:=by
 have e:bo (l,(9223372036854775807:Int),())=true:=a0b d;have f:ir a (l,9223372036854775807,())=(if l>a.1 then l else a.1,a.2.1,()):=by
  unfold ir;simp only;rw[a0d (show¬(9223372036854775807<a.2.1) by have:=b.2.2;omega)]
 unfold dR bJ I0 yh;rw[c,e,f];rfl
def K9 (k:Nat) {a b:bq} (i:bi a) (m:bi b) (j:bo a=true):Kz k (a,b,())=some (mU a b,((),(),())):=by
 obtain⟨⟨a1,n⟩,o,p⟩:=i;have l:a.1<=a.2.1:=a0w j;unfold Kz mU HR;simp only[cx];by_cases c1:b.1=b.2.1
 ·have d:(b.1 !=b.2.1)=false:=by simp[c1]
  by_cases c2:b.1=a.1
  ·have f:¬(b.1≠b.2.1\/b.1≠a.1/\b.1≠a.2.1):=by omega
   have e:(b.1 !=a.1)=false:=by simp[c2]
   rw[a0d f];simp only[d,e,ah,a0c];by_cases c:a.1=a.2.1
   ·rw[a0f c,a0f c]
   ·have w1:wrap .i64 (a.1+1)=a.1+1:=aj (by omega) (by omega)
    rw[a0d c,a0f c2,a0d c,a0f c2,w1]
  ·have e:(b.1 !=a.1)=true:=by simp[c2]
   by_cases g:b.1=a.2.1
   ·have c:¬a.1=a.2.1:=by omega
    have w1:wrap .i64 (a.2.1-1)=a.2.1-1:=aj (by omega) (by omega);have f:¬(b.1≠b.2.1\/b.1≠a.1/\b.1≠a.2.1):=by omega
    have h:(b.1 !=a.2.1)=false:=by simp[g]
    rw[a0d f];simp only[d,e,h,ah,ai,a0c];rw[a0d c,a0d c2,a0d c,a0d c2,w1]
   ·have h:(b.1 !=a.2.1)=true:=by simp[g]
    rw[a0f (show b.1≠b.2.1\/b.1≠a.1/\b.1≠a.2.1 from .inr ⟨c2,g⟩)];simp only[d,e,h,ah,ai,a0c]
 ·rw[a0f (show b.1≠b.2.1\/b.1≠a.1/\b.1≠a.2.1 from .inl c1)]
  have d:(b.1 !=b.2.1)=true:=by simp[c1]
  simp only[d,ai,a0c]
def ju (k:Nat) (op:Int) {a b:bq} (e:bi a) (f:bi b):EK k (op,a,b,())=some (kZ op a b,((),(),(),())):=by
 simp only[EK,dh,fW,ac,kZ];by_cases h:13<=op/\op<=18
 ·rw[a0b h]
  cases ho:bJ a b
  ·simp[HR]
  ·have c:=ho
   unfold bJ at c;simp only[a0e]at c;simp only[a0o,ah,a0c,a3t,a1c,cx,jD,ac,K9 k e f c.1,yi e c.1 f.2.1,yj e c.1 f.1.2];by_cases c1:op=15
   ·rw[a0f c1,a0f c1]
   rw[a0d c1,a0d c1];by_cases c2:op=16
   ·rw[a0f c2,a0f c2]
   rw[a0d c2,a0d c2];by_cases g:op=14
   ·rw[a0f g,a0f g]
   rw[a0d g,a0d g];by_cases i:op=18
   ·rw[a0f i,a0f i]
   rw[a0d i,a0d i];by_cases j:op=13
   ·rw[a0f j,a0f j]
    by_cases d:b.2.1= -9223372036854775808
    ·rw[a0f d,a0f d];rfl
    ·have:=f.2
     rw[a0d d,a0d d,aj (n:=b.2.1-1) (by have:=this.1;omega) (by have:=this.2;omega),yi e c.1 (by have:=this.1;omega)]
   ·rw[a0d j,a0d j]
    by_cases d:b.1=9223372036854775807
    ·rw[a0f d,a0f d];rfl
    ·have:=f.1
     rw[a0d d,a0d d,aj (n:=b.1+1) (by have:=this.1;omega) (by have:=this.2;omega),yj e c.1 (by have:=this.2;omega)]
 ·rw[a0m h]
  simp[HR]
def Db (c:bq):cond (!bo c) (some ((((0:Int),(0:Int),()),false,()),((),(),(),()))) (some ((c,true,()),((),(),(),())))=some (yh c,(((),(),(),()):Unit×Unit×Unit×Unit)):=by
 unfold yh HR
 cases bo c<;>rfl
def HS (k:Nat) {a b:bq} (q:bi a) (h:bo a=true):
 ((
  br k (b.1==b.2.1) (br k (a.1==a.2.1) (some (a.1==b.1,())) (some (false,()))) (some (false,())):Option (Bool×Unit)).bind λi=>
  br k i.1 (some ((((0:Int),(0:Int),()),false,()),((),(),(),())))
   ((
    br k (b.1==b.2.1) (some (a.1==b.1,())) (some (false,())):Option (Bool×Unit)).bind λj=>
    br k j.1
     ((
      br k (b.1==b.2.1) (some (a.2.1==b.1,())) (some (false,())):Option (Bool×Unit)).bind λl=>
      br k l.1
       (cond (!bo (wrap .i64 (a.1+1),wrap .i64 (a.2.1-1),())) (some ((((0:Int),(0:Int),()),false,()),((),(),(),()))) (some (((wrap .i64 (a.1+1),wrap .i64 (a.2.1-1),()),true,()),((),(),(),()))))
       (cond (!bo (wrap .i64 (a.1+1),a.2.1,())) (some ((((0:Int),(0:Int),()),false,()),((),(),(),()))) (some (((wrap .i64 (a.1+1),a.2.1,()),true,()),((),(),(),())))))
     ((
      br k (b.1==b.2.1) (some (a.2.1==b.1,())) (some (false,())):Option (Bool×Unit)).bind λm=>
      br k m.1
       (cond (!bo (a.1,wrap .i64 (a.2.1-1),())) (some ((((0:Int),(0:Int),()),false,()),((),(),(),()))) (some (((a.1,wrap .i64 (a.2.1-1),()),true,()),((),(),(),()))))
       (cond (!bo a) (some ((((0:Int),(0:Int),()),false,()),((),(),(),()))) (some ((a,true,()),((),(),(),())))))))=some (mU a b,(((),(),(),()):Unit×Unit×Unit×Unit)):=by
 obtain⟨⟨a1,s⟩,t,u⟩:=q;have r:a.1<=a.2.1:=a0w h;unfold mU HR;by_cases c1:b.1=b.2.1
 ·have d:(b.1==b.2.1)=true:=by simp[c1]
  by_cases c2:b.1=a.1
  ·have n:¬(b.1≠b.2.1\/b.1≠a.1/\b.1≠a.2.1):=by omega
   have e:(a.1==b.1)=true:=by simp[c2]
   rw[a0d n];by_cases c:a.1=a.2.1
   ·have f:(a.1==a.2.1)=true:=by simp[c]
    rw[a0f c];simp only[d,e,f,ai,a0c]
   ·have f:(a.1==a.2.1)=false:=by simp[c]
    have g:(a.2.1==b.1)=false:=by rw[c2];simp;omega
    have w1:wrap .i64 (a.1+1)=a.1+1:=aj (by omega) (by omega);have o:bo (a.1+1,a.2.1,())=true:=a0b (by simp only;omega);rw[a0d c,a0f c2];simp only[d,e,f,g,ai,ah,a0c,w1,o,a0o,a1q]
  ·have e:(a.1==b.1)=false:=by simp;omega
   by_cases p:b.1=a.2.1
   ·have c:¬a.1=a.2.1:=by omega
    have n:¬(b.1≠b.2.1\/b.1≠a.1/\b.1≠a.2.1):=by omega
    have f:(a.1==a.2.1)=false:=by simp[c]
    have g:(a.2.1==b.1)=true:=by simp[p]
    have w1:wrap .i64 (a.2.1-1)=a.2.1-1:=aj (by omega) (by omega);have o:bo (a.1,a.2.1-1,())=true:=a0b (by simp only;omega);rw[a0d n,a0d c,a0d c2];simp only[d,e,f,g,ai,ah,a0c,w1,o,a0o,a1q]
   ·have g:(a.2.1==b.1)=false:=by simp;omega
    rw[a0f (show b.1≠b.2.1\/b.1≠a.1/\b.1≠a.2.1 from .inr ⟨c2,p⟩)]
    cases h3:(a.1==a.2.1)<;>simp only[d,e,g,ai,ah,a0c,h,a0o,a1q]
 ·have d:(b.1==b.2.1)=false:=by simp[c1]
  rw[a0f (show b.1≠b.2.1\/b.1≠a.1/\b.1≠a.2.1 from .inl c1)];simp only[d,ah,a0c,h,a0o,a1q]
def lL (k:Nat) (op:Int) {a b:bq} (e:bi a) (f:bi b):ES k (op,a,b,())=some (kZ op a b,((),(),(),())):=by
 simp only[ES,ro,jt,ft,ac,kZ];by_cases h:13<=op/\op<=18
 ·rw[a0b h]
  cases h1:bo a
  ·simp[bJ,h1,HR]
  ·cases h2:bo b
   ·simp[bJ,h1,h2,HR]
   ·have g:bJ a b=true:=by unfold bJ;rw[h1,h2];rfl
    have i:op=13\/op=14\/op=15\/op=16\/op=17\/op=18:=by omega
    obtain⟨⟨j,l⟩,m,o⟩:=f;simp only[g,a0o,ah,a0c,a3t,a1c,lp,ac];rcases i with rfl|rfl|rfl|rfl|rfl|rfl
    ·simp only[cx,a1z,show¬(13:Int)=15 by omega,show¬(13:Int)=16 by omega,show¬(13:Int)=14 by omega,show¬(13:Int)=18 by omega,a1y]
     by_cases c:b.2.1= -9223372036854775808
     ·rw[a0f c,a0f c];rfl
     ·rw[a0d c,a0d c,aj (n:=b.2.1-1) (by omega) (by omega),ek]
      exact Db _
    ·simp only[cx,a1z,show¬(14:Int)=13 by omega,show¬(14:Int)=15 by omega,show¬(14:Int)=16 by omega,a1y]
     rw[ek];exact Db _
    ·simp only[cx,a1z,show¬(15:Int)=13 by omega,show¬(15:Int)=14 by omega,show¬(15:Int)=17 by omega,show¬(15:Int)=18 by omega,a1y]
    ·rw[show((16:Int)==13)=false from rfl,show((16:Int)==14)=false from rfl,show((16:Int)==17)=false from rfl,show((16:Int)==18)=false from rfl,show((16:Int)==15)=false from rfl]
     simp only[ah,show¬(16:Int)=15 by omega,a1y,a1z];have d:=HS k (b:=b) e h1;simp only[<-ek k,h1,a0o,ah]at d;exact d
    ·simp only[cx,a1z,show¬(17:Int)=13 by omega,show¬(17:Int)=14 by omega,show¬(17:Int)=15 by omega,show¬(17:Int)=16 by omega,show¬(17:Int)=18 by omega,a1y]
     by_cases c:b.1=9223372036854775807
     ·rw[a0f c,a0f c];rfl
     ·rw[a0d c,a0d c,aj (n:=b.1+1) (by omega) (by omega),ek]
      exact Db _
    ·simp only[cx,a1z,show¬(18:Int)=13 by omega,show¬(18:Int)=14 by omega,show¬(18:Int)=15 by omega,show¬(18:Int)=16 by omega,show¬(18:Int)=17 by omega,a1y]
     rw[ek];exact Db _
 ·rw[a0m h]
  simp[HR]
def nA (v:jd):Prop:=bi (v.1,v.2.1,())
def bL:ax 0:=by unfold ax;omega
def qu:nA jF:=⟨bL,bL⟩
def La (h:∀x∈l,ax x):ax (s4 l):=by
 by_cases e:l=[]
 ·subst e;exact bL
 ·exact h _ (pf e).1
def Lc (h:∀x∈l,ax x):ax (s5 l):=by
 by_cases e:l=[]
 ·subst e;exact bL
 ·exact h _ (pg e).1
def HT (h:∀x∈l,ax x) (a b:Bool) (c:Int):nA (jE l a b c):=by
 unfold jE
 cases ((l++cond a [-9223372036854775808] []).isEmpty||(l++cond b [9223372036854775807] []).isEmpty)
 ·refine⟨La λx hx=> ?_,Lc λx hx=> ?_⟩
  ·rcases a0k.1 hx with hx|hx
   ·exact h x hx
   ·cases a<;>simp at hx
    subst hx;unfold ax;omega
  ·rcases a0k.1 hx with hx|hx
   ·exact h x hx
   ·cases b<;>simp at hx
    subst hx;unfold ax;omega
 ·exact⟨bL,bL⟩
def uL (h:∀p∈cs,ax p.1) (a:Int):nA (d8 cs a):=by
 rw[je];exact HT (λx b=>h _ (fL.1 b)) _ _ _
def pi (c:∀x y,ax x->ax y->ax (f x y).1) {a b:bq} (d:bi a) (e:bi b):∀p∈dH f a b,ax p.1:=by
 intro p g;simp only[dH,a1j,a3m,a5y]at g;rcases g with rfl|rfl|rfl|rfl
 ·exact c _ _ d.1 e.1
 ·exact c _ _ d.1 e.2
 ·exact c _ _ d.2 e.1
 ·exact c _ _ d.2 e.2
def pj (c:∀x y,ax x->ax y->ax (f x y).1) {a b:bq} (d:bi a) (e:bi b):nA (jG f a b):=by
 unfold jG
 cases bJ a b
 ·exact qu
 ·exact uL (pi c d e) 0
def Bh (x y:Int) (_:ax x) (_:ax y):ax (gE x y).1:=jc _
def pm (x y:Int) (_:ax x) (_:ax y):ax (fD x y).1:=jc _
def Bi (x y:Int) (_:ax x) (_:ax y):ax (gF x y).1:=jc _
def Bj (x y:Int) (a:ax x) (b:ax y):ax (dY x y).1:=((IX 0) x y a b).2
def HU {a b:bq} (d:bi a) (e:bi b):nA (ry a b):=by
 unfold ry
 cases bJ a b
 ·exact qu
 ·refine uL (λp c=> ?_) _
  obtain⟨x,f,c⟩:=a3s.1 c;exact pi Bj d (mT e x f) p c
def jg (n:Int):ax (wrap .i64 n):=by
 rw[IntKind.wrap_i64];unfold ax;omega
def HV {a b:bq} (c:bi a):nA (rC a b):=by
 unfold rC
 cases bJ a b
 ·exact qu
 ·cases (cy b).isEmpty
  ·cases (a.1==a.2.1&& b.1==b.2.1)
   ·refine⟨?_,?_⟩
    ·simp only[a1c,a1q]
     cases decide (a.1<0)
     ·exact bL
     ·simp only[a1c]
      split
      ·exact c.1
      ·exact jg _
    ·simp only[a1c,a1q]
     cases decide (a.2.1>0)
     ·exact bL
     ·simp only[a1c]
      split
      ·exact c.2
      ·exact jg _
   ·exact⟨A8 c.1,A8 c.1⟩
  ·exact⟨bL,bL⟩
def tc {a b:bq} (c:bi a) (d:bi b):bi (eX a b):=by
 refine⟨?_,?_⟩<;>(unfold eX;simp only;split)
 ·exact d.1
 ·exact c.1
 ·exact d.2
 ·exact c.2
def Nl {a b:bq} (c:bi a) (d:bi b):bi (ir a b):=by
 refine⟨?_,?_⟩<;>(unfold ir;simp only;split)
 ·exact d.1
 ·exact c.1
 ·exact d.2
 ·exact c.2
def l9 {a b:bq} (c:bi a) (d:bi b):bi (dR a b).1:=by
 unfold dR
 cases bJ a b&& bo (ir a b)
 ·exact cN
 ·exact Nl c d
def Nm (op:Int) (a b:bq):bi (yd op a b):=by
 unfold yd
 cases (decide (13<=op/\op<=18)&& bJ a b)
 ·exact cN
 ·cases eA (31-op) a b<;>cases eA op a b<;>(unfold bi ax;simp)
def rD {c:bq} (h:bi c):bi (yh c).1:=by
 unfold yh
 cases bo c
 ·exact cN
 ·exact h
def Nn (op:Int) {a b:bq} (j:bi a) (k:bi b) (l:bo a=true):bi (kZ op a b).1:=by
 unfold kZ
 cases (decide (13<=op/\op<=18)&& bJ a b)
 ·exact cN
 ·have m:a.1<=a.2.1:=a0w l
  obtain⟨⟨a1,c⟩,d,e⟩:=j;obtain⟨⟨f,g⟩,h,i⟩:=k;simp only[a1c];split
  ·exact l9 ⟨⟨a1,c⟩,d,e⟩ ⟨⟨f,g⟩,h,i⟩
  ·split
   ·unfold mU
    split
    ·exact⟨⟨a1,c⟩,d,e⟩
    ·split
     ·exact cN
     ·split
      ·exact⟨⟨by simp only;omega,by simp only;omega⟩,d,e⟩
      ·exact⟨⟨a1,c⟩,⟨by simp only;omega,by simp only;omega⟩⟩
   ·split
    ·exact rD ⟨⟨a1,c⟩,by simp only;split;exact⟨h,i⟩;exact⟨d,e⟩⟩
    ·split
     ·exact rD ⟨by simp only;split;exact⟨f,g⟩;exact⟨a1,c⟩,⟨d,e⟩⟩
     ·split
      ·split
       ·exact cN
       ·exact rD ⟨⟨a1,c⟩,by simp only;unfold ax;split<;>omega⟩
      ·split
       ·exact cN
       ·exact rD ⟨by simp only;unfold ax;split<;>omega,⟨d,e⟩⟩
def dm (a:bq):jd:=(a.1,a.2.1,true,0,())
def pC (op:Int) (a b:bq):jd:=
 if op=8 then jG gE a b else if op=9 then jG fD a b else if op=10 then jG gF a b else if op=11 then ry a b else if op=12 then rC a b
 else if op=20 then dm (if b.1<a.1 then b.1 else a.1,if b.2.1<a.2.1 then b.2.1 else a.2.1,())else if op=21 then dm (if b.1>a.1 then b.1 else a.1,if b.2.1>a.2.1 then b.2.1 else a.2.1,())else dm (yd op a b)
def oM (k:Nat) (a:bq):vf k (a,())=some ((dm a,()),((),())):=by simp[vf,dm]
def dM (k:Nat) (a:bq):DD k (a,())=some ((dm a,()),((),())):=by simp[DD,dm]
def HW (d:200<=k) (op:Int) {a b:bq} (e:bi a) (c:bi b):Ky k (op,a,b,())=some ((pC op a b,()),((),(),(),())):=by
 simp only[Ky,cx,CX d e c,rx d e c,CY d e c,C0 d e c,C8 c,oM,yf (show 2<=k by omega),ac,pC]
 repeat (split;rfl)
 rfl
def No (d:50<=k) (op:Int) {a b:bq} (e:bi a) (c:bi b):KP k (op,a,b,())=some ((pC op a b,()),((),(),(),())):=by
 simp only[KP,cx,C4 d e c,rA d e c,C5 d e c,C7 d e c,C9 c,dM,yg,ac,pC]
 repeat (split;rfl)
 rfl
def Bk (op:Int) {a b:bq} (c:bi a) (d:bi b):nA (pC op a b):=by
 unfold pC;split
 ·exact pj Bh c d
 split
 ·exact pj pm c d
 split
 ·exact pj Bi c d
 split
 ·exact HU c d
 split
 ·exact HV c
 split
 ·refine⟨?_,?_⟩<;>(unfold dm;simp only;split)
  ·exact d.1
  ·exact c.1
  ·exact d.2
  ·exact c.2
 split
 ·refine⟨?_,?_⟩<;>(unfold dm;simp only;split)
  ·exact d.1
  ·exact c.1
  ·exact d.2
  ·exact c.2
 ·exact Nm op a b
abbrev cL:=Int×Int×Unit
def nT (op:Int):Nat:=if op<=5 then 0 else if op<=7\/op=19 then 1 else 2
def kT (op:Int):Int:=if op=3\/op=4\/op=5 then 0 else if op<=18 then 1 else 2
def cD (op:Int):Int:=if op=3\/op=4\/op=5 then 2 else if op<=12 then 1 else 2
def cO (d:aE) (t:cL):Bool:=
 if t.1=1 then decide (0<=t.2.1/\t.2.1<=999999999999999999)
 else if t.1=2 then decide (0<=t.2.1/\t.2.1<=(d.1.length:Int)-1)
 else if t.1=3 then decide (0<=t.2.1/\t.2.1<=(d.2.1.length:Int)-1)
 else if t.1=6 then decide (0<=t.2.1/\t.2.1<=(d.2.2.1.length:Int)-1)
 else decide (4<=t.1/\t.1<=21)&& (t.2.1==0)
def E6 (op:Int):nT op<=2:=by
 unfold nT;split
 ·omega
 ·split<;>omega
def rE {d:aE} {t:cL} (h:cO d t=true):1<=t.1/\t.1<=21:=by
 unfold cO at h;by_cases a:t.1=1
 ·omega
 by_cases b:t.1=2
 ·omega
 by_cases c:t.1=3
 ·omega
 by_cases e:t.1=6
 ·omega
 rw[a0d a,a0d b,a0d c,a0d e,a0e]at h;have:=a0w h.1;omega
def kH (k:Nat) (op:Int):Hc k (op,())=some (((nT op:Int),()),((),())):=by
 unfold Hc nT;simp only[ap];by_cases a:op<=5
 ·simp[a]
 ·rw[a0d a,a0d a]
  by_cases b:op<=7
  ·simp[b]
  ·rw[a0d b]
   by_cases c:op=19
   ·subst c;simp
   ·have:(op==19)=false:=by simpa using c
    simp[this,b,c]
def HX (k:Nat) (op:Int):JX k (op,())=some ((kT op,cD op,()),((),())):=by
 unfold JX kT cD;simp only[ap,cx];by_cases d:op=3
 ·subst d;simp
 by_cases e:op=4
 ·subst e;simp
 by_cases c:op=5
 ·subst c;simp
 have f:(op==5)=false:=by simpa using c
 simp only[d,e,c,f,a1y,a0c,ah,false_or];by_cases b:op<=12
 ·have a:op<=18:=by omega
  simp[b,a]
 ·by_cases a:op<=18<;>simp[b,a]
def Np (k:Nat) (d:aE) (c:dG d) (t:cL):JY k (d,t,())=some ((cO d t,()),((),(),())):=by
 have g:=c.n0;have h:=c.n1;have n2:=c.n2;unfold JY cO;simp only[cx,jt,ac];rw[aj (n:=(d.1.length:Int)-1) (by omega) (by omega),aj (n:=(d.2.1.length:Int)-1) (by omega) (by omega),aj (n:=(d.2.2.1.length:Int)-1) (by omega) (by omega)];by_cases a:t.1=1
 ·simp only[a0f a]
 by_cases b:t.1=2
 ·simp only[a0d a,a0f b]
 by_cases e:t.1=3
 ·simp only[a0d a,a0d b,a0f e]
 by_cases f:t.1=6
 ·simp only[a0d a,a0d b,a0d e,a0f f]
 simp only[a0d a,a0d b,a0d e,a0d f]
 cases decide (4<=t.1/\t.1<=21)<;>simp
def Nq (k:Nat) (d:aE) (c:dG d) (t:cL):J4 k (d,t,())=some ((cO d t,()),((),(),())):=by
 have g:=c.n0;have h:=c.n1;have n2:=c.n2;unfold J4 cO xu CE;simp only[cx,dh,ac];rw[aj (n:=(d.1.length:Int)-1) (by omega) (by omega),aj (n:=(d.2.1.length:Int)-1) (by omega) (by omega),aj (n:=(d.2.2.1.length:Int)-1) (by omega) (by omega)];by_cases a:t.1=1
 ·simp only[a0f a]
 by_cases b:t.1=2
 ·simp only[a0d a,a0f b]
 by_cases e:t.1=3
 ·simp only[a0d a,a0d b,a0f e]
 by_cases f:t.1=6
 ·simp only[a0d a,a0d b,a0d e,a0f f]
 simp only[a0d a,a0d b,a0d e,a0d f]
 cases decide (4<=t.1/\t.1<=21)<;>simp
def rF (k:Nat) (op:Int) (h:1<=op/\op<=21):zR k (op,())=some ((List.replicate (nT op) (kT op),()),((),())):=by
 have:op=1\/op=2\/op=3\/op=4\/op=5\/op=6\/op=7\/op=8\/op=9\/op=10\/op=11\/op=12\/op=13\/op=14\/op=15\/op=16\/op=17\/op=18\/op=19\/op=20\/op=21:=by omega
 unfold zR;simp only[dh,cx,ac];rcases this with rfl|rfl|rfl|rfl|rfl|rfl|rfl|rfl|rfl|rfl|rfl|rfl|rfl|rfl|rfl|rfl|rfl|rfl|rfl|rfl|rfl<;>simp[nT,kT,ap,List.replicate]
def Ld (k:Nat) (op:Int) (h:1<=op/\op<=21):J6 k (op,())=some ((cD op,()),((),())):=by
 have:op=1\/op=2\/op=3\/op=4\/op=5\/op=6\/op=7\/op=8\/op=9\/op=10\/op=11\/op=12\/op=13\/op=14\/op=15\/op=16\/op=17\/op=18\/op=19\/op=20\/op=21:=by omega
 unfold J6;simp only[dh,ac];rcases this with rfl|rfl|rfl|rfl|rfl|rfl|rfl|rfl|rfl|rfl|rfl|rfl|rfl|rfl|rfl|rfl|rfl|rfl|rfl|rfl|rfl<;>simp[cD,ap]
def lr (p:List Int) (op:Int):Option (List Int):=if nT op<=p.length/\p.drop (p.length-nT op)=List.replicate (nT op) (kT op)then some (p.take (p.length-nT op)++[cD op])else none
def kJ:List Int->List cL->Option (List Int)
 |p,[]=>some p
 |p,t::r=>(lr p t.1).bind λq=>kJ q r
def yk:Option (List Int)->Int
 |some [x]=>x
 |_=>0
def bV (d:aE) (l:List cL):Int:=cond (decide (l.length<=40)&& l.all (cO d)) (yk (kJ [] l)) 0
def Bl (k:Nat) (p:List Int):(br k ((p.length:Int) !=1)
 (some ((0,()),((),(),())))
 (br k (decide (0<=(0:Int)/\(0:Int)<(p.length:Int)))
 (bd k (p[(0:Int).toNat]?) λa=>
 some ((a,()),((),(),())))
 none):Option i8)=some ((yk (some p),()),((),(),())):=by
 match p with
 |[]=>simp[yk]
 |[x]=>simp[yk]
 |x::y::r=>
  have:(((x::y::r).length:Int) !=1)=true:=by simp;omega
  simp only[this,ai,yk]
def Ak (k:Nat) (a b:List Int) (o:a.length<k) (u:k<=4611686018427387903):xx k (a,b,())=some ((decide (a=b),()),((),(),())):=by
 unfold xx;by_cases g:a.length=b.length
 ·have j:((a.length:Int) !=(b.length:Int))=false:=by simp[g]
  simp only[j,ah];have h:=kG (b:=xx.l0 k) (λi=>(a,b,(a.length:Int),(i:Int),())) a.length (λi=>a.getD i 0 !=b.getD i 0) (λ_=>some ((false,()),((),(),()))) (r:=some ((true,()),((),(),()))) (λG i l=>by
   have d:i<b.length:=by omega
   have f:((i:Int)<(a.length:Int)):=by omega
   have p:(0:Int)<=(i:Int):=by omega
   have q:a.getD i 0=a[i]:=by simp[List.getD,a0a l]
   have s:b.getD i 0=b[i]:=by simp[List.getD,a0a d]
   simp only[xx.l0,ap,a0f f,a0f p,a0i,a0a l,a0a d,ac,q,s];rw[aB]
   cases (a[i] !=b[i])<;>simp) (λG=>by
   have f:¬((a.length:Int)<(a.length:Int)):=by omega
   simp only[xx.l0,ap,a0d f]) o
  rcases h with⟨i,l,m,e⟩|⟨m,e⟩
  ·refine Eq.trans e ?_
   have c:a≠b:=by
    intro h;subst h;simp at m
   simp[c]
  ·refine Eq.trans e ?_
   have t:a=b:=by
    apply a7v g;intro i n f;have:=m i n;simp only[List.getD,a0a n,a0a f,a2r,a6d]at this;exact this
   simp[t]
 ·have j:((a.length:Int) !=(b.length:Int))=true:=by simp;omega
  have c:a≠b:=λh=>g (by rw[h])
  simp only[j,ai,c,a8g]
def Al (k:Nat) (z:4194304<k) (e:k<=4611686018427387903) (d:aE) (l:List cL) (A:l.length<=40) (j:∀t∈l,cO d t=true):∀(n i f:Nat) (p:List Int),i+n=l.length->n<f->p.length<=i->aH (Hh.l0 k) f (p,l,(l.length:Int),(i:Int),())=some ((yk (kJ p (l.drop i)),()),((),(),())):=by
 intro n
 induction n with
 |zero=>
  intro i f p q r s;obtain⟨f,rfl⟩:∃g,f=g+1:=⟨f-1,by omega⟩;have m:¬((i:Int)<(l.length:Int)):=by omega
  rw[aD,a2c (by omega)];simp only[Hh.l0,ap (p:=(i:Int)<(l.length:Int)),a0d m,kJ];exact Bl k p
 |succ n ih=>
  intro i f p q r s;obtain⟨f,rfl⟩:∃g,f=g+1:=⟨f-1,by omega⟩;have a:i<l.length:=by omega
  have m:((i:Int)<(l.length:Int)):=by omega
  have u:(0:Int)<=(i:Int):=by omega
  have b:=rE (j l[i] (a0n a));have B:=E6 l[i].1;rw[aD,a1d a];simp only[Hh.l0,ap,a0f m,a0f u,a0i,a0a a,ac,rF k l[i].1 b,Ld k l[i].1 b,a2a,kJ];rw[aj (n:=(p.length:Int)-(nT l[i].1:Int)) (by omega) (by omega)];by_cases v:p.length<nT l[i].1
  ·have c1:((p.length:Int)-(nT l[i].1:Int))<0:=by omega
   have c2:¬(nT l[i].1<=p.length/\p.drop (p.length-nT l[i].1)=List.replicate (nT l[i].1) (kT l[i].1)):=by omega
   simp only[a0f c1,a0c,ai,lr,a0d c2,a5k,yk]
  ·have c1:¬((p.length:Int)-(nT l[i].1:Int))<0:=by omega
   have c2:0<=((p.length:Int)-(nT l[i].1:Int))/\((p.length:Int)-(nT l[i].1:Int))<=(p.length:Int):=by omega
   have w:((p.length:Int)-(nT l[i].1:Int)).toNat=p.length-nT l[i].1:=by omega
   have x:aM p (p.length-nT l[i].1) (p.length-(p.length-nT l[i].1))=p.drop (p.length-nT l[i].1):=by
    unfold aM;rw[a3i (by simp)]
   have et:aM p ((0:Int).toNat) (p.length-nT l[i].1-(0:Int).toNat)=p.take (p.length-nT l[i].1):=by simp[aM]
   have y:((p.take (p.length-nT l[i].1)).length+([cD l[i].1]:List Int).length)*8<=ag:=by simp[ag];omega
   simp only[a0d c1,a0f c2,w,x,et,Ak k (p.drop (p.length-nT l[i].1)) (List.replicate (nT l[i].1) (kT l[i].1)) (by simp;omega) e,ac,a0c,a0f y];rw[aB];by_cases c:p.drop (p.length-nT l[i].1)=List.replicate (nT l[i].1) (kT l[i].1)
   ·have o:nT l[i].1<=p.length/\p.drop (p.length-nT l[i].1)=List.replicate (nT l[i].1) (kT l[i].1):=⟨by omega,c⟩
    simp only[a0b c,a0o,ah,lr,a0f o,a0c];exact ih (i+1) f _ (by omega) (by omega) (by simp;omega)
   ·have o:¬(nT l[i].1<=p.length/\p.drop (p.length-nT l[i].1)=List.replicate (nT l[i].1) (kT l[i].1)):=λh=>c h.2
    simp only[a0m c,a0u,ai,lr,a0d o,a5k,yk]
def Dc (k:Nat) (m:4194304<k) (d:aE) (e:dG d) (l:List cL) (p:l.length<=1048576):J5 k (l,(d,()),())=some ((l.all (cO d),()),((),((),()),())):=by
 obtain⟨n,g,a⟩:=fU (b:=xw.l0 k) (λi=>(l,(((d,()),()),()),(l.length:Int),(i:Int),())) l (λt=> !cO d t) (o:=((),(((d,()),()),()),())) (λG i h=>by
  have a:((i:Int)<(l.length:Int)):=by omega
  have j:(0:Int)<=(i:Int):=by omega
  simp only[xw.l0,MS,Nq k d e,ap,a0f a,a0f j,a0i,a0a h,ac];rw[aB]
  cases cO d l[i]<;>simp) (λG=>by
  have a:¬((l.length:Int)<(l.length:Int)):=by omega
  simp only[xw.l0,ap,a0d a]) (f:=k)
 unfold J5 MT xw;have c:aH (xw.l0 k) k (l,(((d,()),()),()),(l.length:Int),0,())=some ((n,()),((),(((d,()),()),()),())):=g;simp only[c,ac,a];rw[List.not_any_eq_all_not];simp
def Bm (k:Nat) (c:4194304<k) (b:k<=4611686018427387903) (d:aE) (f:dG d) (l:List cL) (g:l.length<=1048576):Hh k (d,l,())=some ((bV d l,()),((),(),())):=by
 unfold Hh bV;simp only[ap];by_cases e:(l.length:Int)>40
 ·have:decide (l.length<=40)=false:=by simp;omega
  simp[a0f e,this]
 ·have a:l.length<=40:=by omega
  simp only[a0d e,Dc k c d f l g,ac,a0b a,a1n]
  cases ha:l.all (cO d)with
  |false=>simp
  |true=>
   have h:=Al k c b d l a (λt i=>a1g.1 ha t i) l.length 0 k [] (by omega) (by omega) (a4j _);simp only[a0o,ah,a1c];exact h
def Am (k:Nat) (Q:4194304<k) (A:k<=4611686018427387903) (d:aE) (B:dG d) (l:List cL) (R:l.length<=40):∀(n i f:Nat) (p:List Int),i+n=l.length->n<f->p.length<=i->aH (A0.l0 k) f (l,d,p,(i:Int),())=some ((cond ((l.drop i).all (cO d)) (yk (kJ p (l.drop i))) 0,()),((),(),())):=by
 intro n
 induction n with
 |zero=>
  intro i f p C D E;obtain⟨f,rfl⟩:∃g,f=g+1:=⟨f-1,by omega⟩;have c:¬((i:Int)<(l.length:Int)):=by omega
  rw[aD,a2c (by omega)];simp only[A0.l0,ap (p:=(i:Int)<(l.length:Int)),a0d c,kJ,List.all_nil,a1c];exact Bl k p
 |succ n ih=>
  intro i f p C D E;obtain⟨f,rfl⟩:∃g,f=g+1:=⟨f-1,by omega⟩;have m:i<l.length:=by omega
  have c:((i:Int)<(l.length:Int)):=by omega
  have t:(0:Int)<=(i:Int):=by omega
  have S:=E6 l[i].1;have F:((d.1,d.2.1,d.2.2.1,()):aE)=d:=rfl;rw[aD,a1d m,a5q];simp only[A0.l0,ap (p:=(i:Int)<(l.length:Int)),ap (p:=(0:Int)<=(i:Int)),a0f c,a0f t,a0i,a0a m,ac,kH,HX,F,Np k d B,kJ]
  cases ht:cO d l[i]with
  |false=>simp
  |true=>
   simp only[a0o,ah,a0c,a1n];by_cases H:p.length<nT l[i].1
   ·have c1:((p.length:Int)<(nT l[i].1:Int)):=by omega
    have c2:¬(nT l[i].1<=p.length/\p.drop (p.length-nT l[i].1)=List.replicate (nT l[i].1) (kT l[i].1)):=by omega
    simp only[a0b c1,ai,lr,a0d c2,a5k,yk]
    cases (l.drop (i+1)).all (cO d)<;>rfl
   ·have c1:¬((p.length:Int)<(nT l[i].1:Int)):=by omega
    simp only[a0m c1,ah];rw[aj (n:=(p.length:Int)-(nT l[i].1:Int)) (by omega) (by omega)];have o:=λj p I c t=>ih j f p I c t
    generalize T:aH (A0.l0 k) f=G0 at o⊢
    have q:=kG (b:=A0.l2 k G0) (λj=>(l,d,p,(i:Int),(nT l[i].1:Int),kT l[i].1,cD l[i].1,(p.length:Int)-(nT l[i].1:Int)+(j:Int),())) (nT l[i].1) (λj=>p.getD (p.length-nT l[i].1+j) 0 !=kT l[i].1) (λ_=>some ((0,()),((),(),()))) (r:=G0 (l,d,p.take (p.length-nT l[i].1)++[cD l[i].1],((i+1:Nat):Int),())) (λG j s=>by
     have a:p.length-nT l[i].1+j<p.length:=by omega
     have u:((p.length:Int)-(nT l[i].1:Int)+(j:Int))<(p.length:Int):=by omega
     have v:0<=((p.length:Int)-(nT l[i].1:Int)+(j:Int))/\((p.length:Int)-(nT l[i].1:Int)+(j:Int))<(p.length:Int):=by omega
     have J:((p.length:Int)-(nT l[i].1:Int)+(j:Int)).toNat=p.length-nT l[i].1+j:=by omega
     have K:p.getD (p.length-nT l[i].1+j) 0=p[p.length-nT l[i].1+j]:=by simp[List.getD,a0a a]
     simp only[A0.l2,ap,a0f u,a0f v,J,a0a a,ac,K];rw[aj (n:=(p.length:Int)-(nT l[i].1:Int)+(j:Int)+1) (by omega) (by omega)];have L:(p.length:Int)-(nT l[i].1:Int)+(j:Int)+1=(p.length:Int)-(nT l[i].1:Int)+((j+1:Nat):Int):=by omega
     rw[L]
     cases (p[p.length-nT l[i].1+j] !=kT l[i].1)<;>simp) (λG=>by
     have u:¬((p.length:Int)-(nT l[i].1:Int)+(nT l[i].1:Int))<(p.length:Int):=by omega
     have v:0<=((p.length:Int)-(nT l[i].1:Int))/\((p.length:Int)-(nT l[i].1:Int))<=(p.length:Int):=by omega
     have M:((p.length:Int)-(nT l[i].1:Int)).toNat=p.length-nT l[i].1:=by omega
     have et:aM p ((0:Int).toNat) (p.length-nT l[i].1-(0:Int).toNat)=p.take (p.length-nT l[i].1):=by simp[aM]
     have N:((p.take (p.length-nT l[i].1)).length+([cD l[i].1]:List Int).length)*8<=ag:=by simp[ag];omega
     simp only[A0.l2,ap,a0d u];rw[aj (n:=(p.length:Int)-(nT l[i].1:Int)) (by omega) (by omega)];simp only[a0f v,M,et,a0f N];rw[aB]) (f:=k) (by omega)
    have O:(p.length:Int)-(nT l[i].1:Int)+((0:Nat):Int)=(p.length:Int)-(nT l[i].1:Int):=by omega
    simp only[O]at q;rcases q with⟨j,s,w,e⟩|⟨w,e⟩
    ·refine Eq.trans e ?_
     have a:p.length-nT l[i].1+j<p.length:=by omega
     have x:¬(nT l[i].1<=p.length/\p.drop (p.length-nT l[i].1)=List.replicate (nT l[i].1) (kT l[i].1)):=by
      rintro⟨_,h⟩
      have y:=a1v (λz=>z[j]?) h;simp only[a2y,a0a a,a6h,a0f s,a0l]at y;simp[List.getD,a0a a,y]at w
     simp only[lr,a0d x,a5k,yk]
     cases (l.drop (i+1)).all (cO d)<;>rfl
    ·refine Eq.trans e ?_
     have x:nT l[i].1<=p.length/\p.drop (p.length-nT l[i].1)=List.replicate (nT l[i].1) (kT l[i].1):=by
      refine⟨by omega,?_⟩;apply a7v (by simp;omega);intro j y P;have s:j<nT l[i].1:=by simpa using P
      have a:p.length-nT l[i].1+j<p.length:=by omega
      have:=w j s;simp only[List.getD,a0a a,a2r,a6d]at this;simp[this]
     simp only[lr,a0f x,a0c];exact o (i+1) _ (by omega) (by omega) (by simp;omega)
def Bn (k:Nat) (e:4194304<k) (b:k<=4611686018427387903) (d:aE) (f:dG d) (l:List cL) (c:aO d=true):A0 k (d,l,())=some ((bV d l,()),((),(),())):=by
 unfold A0 bV;simp only[gX k e d f,c,ac,a0o,ah,a0c,ap];by_cases g:(l.length:Int)>40
 ·have:decide (l.length<=40)=false:=by simp;omega
  simp[a0f g,this]
 ·have a:l.length<=40:=by omega
  have h:=Am k e b d f l a l.length 0 k [] (by omega) (by omega) (a4j _);simp only[a0d g,a0b a,a1n];exact h
abbrev yl:=List Int×List Bool×List (List Int)×Unit
structure P5 (s:yl):Prop where
 n0:s.1.length<=1048576
 n1:s.2.1.length<=1048576
 n2:s.2.2.1.length<=1048576
 m2:∀x∈s.2.2.1,x.length<=1048576
abbrev O0:Kd:= .cons (.sl false (.int .i64)) (.cons (.sl false .bool) (.cons (.sl false (.sl false (.int .i64))) .nil))
def pD (b:Bool):Int:=cond b 1 0
def pn (k:Nat) (b:Bool):Hk k (b,())=some ((pD b,()),((),())):=by
 unfold Hk
 cases b<;>simp[pD]
def ym (k:Nat) (b:Bool):A1 k (b,())=some ((pD b,()),((),())):=by
 unfold A1
 cases b<;>simp[pD]
def Qt (n:Int):Prop:=n=0\/n=1
def Dd (b:Bool):Qt (pD b):=by cases b<;>simp[Qt,pD]
def E7 {n:Int} (h:Qt n):ax n:=by rcases h with rfl|rfl<;>simp[ax]
structure RC (d:aE) (s:yl):Prop where
 n0:s.1.length=d.1.length
 n1:s.2.1.length=d.2.1.length
 n2:s.2.2.1.length=d.2.2.1.length
 f0:∀x∈s.1,ax x
 f2:∀r∈s.2.2.1,∀x∈r,ax x
 m2:∀r∈s.2.2.1,r.length<=1048576
def Q0 (h:nT op=0):op<=5:=by
 unfold nT at h;split at h
 ·assumption
 ·split at h<;>omega
def Ra (h:nT op=1):op=6\/op=7\/op=19:=by
 unfold nT at h;split at h
 ·omega
 ·split at h
  ·omega
  ·omega
def Rb (a:¬nT op=0) (b:¬nT op=1):nT op=2:=by
 have:=E6 op;omega
def rG {d:aE} {t:cL} (h:cO d t=true) (a:t.1=2):0<=t.2.1/\t.2.1.toNat<d.1.length:=by
 unfold cO at h;rw[ifNegQ,a0f a]at h;have:=a0w h;omega
def E8 {d:aE} {t:cL} (h:cO d t=true) (a:t.1=3):0<=t.2.1/\t.2.1.toNat<d.2.1.length:=by
 unfold cO at h;rw[ifNegQ,ifNegQ,a0f a]at h;have:=a0w h;omega
def De {d:aE} {t:cL} (h:cO d t=true) (a:t.1=6):0<=t.2.1/\t.2.1.toNat<d.2.2.1.length:=by
 unfold cO at h;rw[ifNegQ,ifNegQ,ifNegQ,a0f a]at h;have:=a0w h;omega
def O1 {d:aE} {t:cL} (h:cO d t=true) (a:t.1=1):ax t.2.1:=by
 unfold cO at h;rw[a0f a]at h;have:=a0w h;unfold ax;omega
def Nr {d:aE} {t:cL} (h:cO d t=true) (a:t.1≠1) (b:t.1≠2) (c:t.1≠3) (e:t.1≠6):t.2.1=0:=by
 unfold cO at h;rw[a0d a,a0d b,a0d c,a0d e,a0e]at h;simpa using h.2
def bh {l:List α} (h:i<l.length) (z:α):l.getD i z=l[i]:=by simp[List.getD,a0a h]
abbrev P6:=eN×eN×List pB×Bool×List bq×List bq×Int×Unit
def iQ (d:aE) (e:bc) (leaf:Int):P6:=(d.1,d.2.1,d.2.2.1,e.1,e.2.1,e.2.2.1,leaf,())
def HY (leaf n:Int):Int:=wrap .i64 (((BitVec.ofInt 64 (leaf.fdiv (2^(min n.toNat 64)))&&& BitVec.ofInt 64 1).toNat:Int))
def dS (e:bc) (leaf:Int) (t:cL):bq:=if t.1=1 then(t.2.1,t.2.1,())else if t.1=2 then e.2.1.getD t.2.1.toNat (0,0,())else if t.1=3 then(HY leaf t.2.1,HY leaf t.2.1,())else(pD (t.1==4),pD (t.1==4),())
def vP (x:pB):bq:=(0,wrap .i64 (x.2.1-1),())
def hY (x:pB) (a:bq):Int:=cond (yb a (vP x)) 0 2
def eB (x:pB) (a:bq):Bool:=(dR a (vP x)).2.1
def Bo (k:Nat) (d:aE) (b:0<=v) {x:pB} (c:d.2.2.1[v.toNat]?=some x) (a:bq):CG k ((d.1,d.2.1,d.2.2.1,()),v,a,())=some ((hY x a,eB x a,()),((),(),(),())):=by
 simp only[CG];rw[a0b b,c];simp only[ai,ac,jD,HL,hY,eB,vP]
 cases yb a (0,wrap .i64 (x.2.1-1),())<;>simp
def yn (k:Nat) (a:bq) (x:pB):EQ k (a,x.2.1,())=some ((eB x a,hY x a,()),((),(),())):=by
 simp only[EQ,ac,lp,HM,hY,eB,vP]
 cases yb a (0,wrap .i64 (x.2.1-1),())<;>simp
def Bp (k:Nat) {d:aE} {e:bc} (g:e.2.1.length=d.1.length) (leaf:Int) {t:cL} (h:cO d t=true):ve k (iQ d e leaf,t,())=some ((dS e leaf t,()),((),(),())):=by
 unfold ve dS iQ;simp only[cx,jJ,ac];by_cases c:t.1=1
 ·rw[a0f c,a0f c]
 rw[a0d c,a0d c];by_cases a:t.1=2
 ·obtain⟨f,j⟩:=rG h a
  rw[a0f a,a0f a,a0b f];have i:t.2.1.toNat<e.2.1.length:=by omega
  simp only[ai,a0a i,ac,bh i]
 rw[a0d a,a0d a];by_cases b:t.1=3
 ·obtain⟨f,j⟩:=E8 h b
  rw[a0f b,a0f b,a0b f];simp only[ai,HY]
 rw[a0d b,a0d b];simp only[pn,ac,jJ]
def Df (d:aE) (e:bc) (t:cL) (a:bq):jd:=
 if t.1=6 then(match d.2.2.1[t.2.1.toNat]? with
  |some x=>cond (eB x a) ((e.2.2.1.getD t.2.1.toNat (0,0,())).1,(e.2.2.1.getD t.2.1.toNat (0,0,())).2.1,true,hY x a,()) (0,0,false,hY x a,())
  |none=>jF)
 else if t.1=7 then jG fD (0,0,()) a else dm (wrap .i64 (1-a.2.1),wrap .i64 (1-a.1),())
def P7 (j:200<=k) {d:aE} {e:bc} (f:e.2.2.1.length=d.2.2.1.length) (leaf:Int) {t:cL} (l:cO d t=true) {a:bq} (m:bi a):Kp k (iQ d e leaf,t,a,())=some ((Df d e t a,()),((),(),(),())):=by
 unfold Kp Df iQ;simp only[cx];by_cases b:t.1=6
 ·obtain⟨g,n⟩:=De l b
  have h:d.2.2.1[t.2.1.toNat]?=some d.2.2.1[t.2.1.toNat]:=a0a n;have i:t.2.1.toNat<e.2.2.1.length:=by omega
  rw[a0f b,a0f b];simp only[Bo k d g h a,ac,h]
  cases eB d.2.2.1[t.2.1.toNat] a
  ·simp
  ·rw[a0b g]
   simp only[a0o,ah,ai,a0a i,ac,bh i,a1c]
 rw[a0d b,a0d b];by_cases c:t.1=7
 ·rw[a0f c,a0f c]
  simp only[CZ j m,ac]
 ·rw[a0d c,a0d c]
  simp only[oM,ac]
def uM {d:aE} {e:bc} (a:e.2.1.length=d.1.length) (g:∀x∈e.2.1,bi x) (leaf:Int) {t:cL} (b:cO d t=true):bi (dS e leaf t):=by
 unfold dS;split
 ·rename_i h
  have c:ax t.2.1:=O1 b h;exact⟨c,c⟩
 split
 ·rename_i h
  obtain⟨i,j⟩:=rG b h;have f:t.2.1.toNat<e.2.1.length:=by omega
  rw[bh f];exact g _ (a0n f)
 split
 ·exact⟨jg _,jg _⟩
 ·exact⟨E7 (Dd _),E7 (Dd _)⟩
def E9 {d:aE} {e:bc} (b:e.2.2.1.length=d.2.2.1.length) (f:∀x∈e.2.2.1,bi x) {t:cL} (g:cO d t=true) {a:bq} (h:bi a):nA (Df d e t a):=by
 unfold Df;split
 ·rename_i i
  obtain⟨k,j⟩:=De g i;have c:t.2.1.toNat<e.2.2.1.length:=by omega
  rw[a0a j];simp only
  cases eB d.2.2.1[t.2.1.toNat] a
  ·exact⟨bL,bL⟩
  ·rw[bh c]
   exact f _ (a0n c)
 split
 ·exact pj pm cN h
 ·exact⟨jg _,jg _⟩
structure Fa (K p:List Int):Prop where
 len:p.length=K.length
 fit:∀v∈p,ax v
 bit:∀i,K[i]?=some 2->Qt (p.getD i 0)
def kK (h:lr K op=some K'):nT op<=K.length/\K.drop (K.length-nT op)=List.replicate (nT op) (kT op)/\K'=K.take (K.length-nT op)++[cD op]:=by
 unfold lr at h;split at h
 ·rename_i a
  exact⟨a.1,a.2,(a1e h).symm⟩
 ·cases h
def Ns (b:n<=K.length) (h:K.drop (K.length-n)=List.replicate n x) {j:Nat} (a:j<n):K[K.length-n+j]?=some x:=by
 have:=a1v (·[j]?) h;simp only[a2y,a6h,a0f a]at this;exact this
def Fa.arg {p:List Int} (b:Fa K p) (h:lr K op=some K') {j:Nat} (c:j<nT op):p.length-nT op+j<p.length/\ax (p.getD (p.length-nT op+j) 0)/\(kT op=2->Qt (p.getD (p.length-nT op+j) 0)):=by
 obtain⟨d,e,_⟩:=kK h;have f:=b.len;have a:p.length-nT op+j<p.length:=by omega
 refine⟨a,?_,λg=> ?_⟩
 ·rw[bh a];exact b.fit _ (a0n _)
 ·refine b.bit _ ?_
  rw[f,Ns d e c,g]
def Fa.push {p:List Int} (c:Fa K p) (h:lr K op=some K') (f:ax v) (b:cD op=2->Qt v):Fa K' (p.take (p.length-nT op)++[v]):=by
 obtain⟨k,l,rfl⟩:=kK h;have g:=c.len;refine⟨by simp;omega,λx hx=> ?_,λi a=> ?_⟩
 ·rcases a0k.1 hx with hx|hx
  ·exact c.fit x (a3h hx)
  ·rw[a0x.1 hx];exact f
 ·by_cases d:i<K.length-nT op
  ·rw[a1l (by simp;omega),a4h,a0f d]at a
   have b:=c.bit i a;simp only[List.getD]at b⊢;rw[a1l (by simp;omega),a4h,ifPosQ];exact b
  ·by_cases j:i=K.length-nT op
   ·subst j
    rw[a0y (by simp)]at a;simp at a;simp only[List.getD];rw[g,a0y (by simp;omega)];simp;have e:K.length-nT op-min (K.length-nT op) p.length=0:=by omega
    rw[e];simpa using b a
   ·rw[a0y (by simp;omega)]at a
    have:i-(K.take (K.length-nT op)).length≠0:=by simp;omega
    rw[a1f (by simp;omega)]at a
    cases a
def Fb (l:List α) (m:Nat):aM l ((0:Int).toNat) (m-(0:Int).toNat)=l.take m:=by
 simp only[aM];rfl
abbrev dA:bq:=(0,0,())
def uN (d:aE) (e:bc) (leaf:Int) (t:cL) (a b:bq):jd:=if nT t.1=0 then dm (dS e leaf t)else if nT t.1=1 then Df d e t a else pC t.1 a b
def pE (d:aE) (e:bc) (leaf:Int):Int->List bq->List cL->jd
 |al,p,[]=>((p.getD 0 dA).1,(p.getD 0 dA).2.1,true,al,())
 |al,p,t::r=>
  if(uN d e leaf t (p.getD (p.length-nT t.1) dA) (p.getD (p.length-nT t.1+1) dA)).2.2.1=true then
   pE d e leaf (di al (uN d e leaf t (p.getD (p.length-nT t.1) dA) (p.getD (p.length-nT t.1+1) dA)).2.2.2.1) (p.take (p.length-nT t.1)++[((uN d e leaf t (p.getD (p.length-nT t.1) dA) (p.getD (p.length-nT t.1+1) dA)).1,(uN d e leaf t (p.getD (p.length-nT t.1) dA) (p.getD (p.length-nT t.1+1) dA)).2.1,())]) r
  else(0,0,false,di al (uN d e leaf t (p.getD (p.length-nT t.1) dA) (p.getD (p.length-nT t.1+1) dA)).2.2.2.1,())
structure Gd (d:aE) (e:bc):Prop where
 ints:e.2.1.length=d.1.length
 arrs:e.2.2.1.length=d.2.2.1.length
 fi:∀x∈e.2.1,bi x
 fa:∀x∈e.2.2.1,bi x
def iu {p:List bq} (h:∀x∈p,bi x) (i:Nat):bi (p.getD i dA):=by
 by_cases a:i<p.length
 ·rw[bh a];exact h _ (a0n a)
 ·have:p.getD i dA=dA:=by simp[List.getD,a1f (Nat.le_of_not_lt a)]
  rw[this];exact cN
def Fc {d:aE} {e:bc} (c:Gd d e) (leaf:Int) {t:cL} (f:cO d t=true) {a b:bq} (g:bi a) (h:bi b):nA (uN d e leaf t a b):=by
 unfold uN;split
 ·exact uM c.ints c.fi leaf f
 split
 ·exact E9 c.arrs c.fa f g
 ·exact Bk _ g h
def Dg (k:Nat) (hk:4194304<k) {d:aE} {e:bc} (B:Gd d e) (leaf:Int) (l:List cL) (hl:l.length<=40) (C:∀t∈l,cO d t=true):∀(n i f:Nat) (p:List bq) (K q:List Int) (y:Int),i+n=l.length->n<f->p.length<=i->p.length=K.length->(∀x∈p,bi x)->kJ K (l.drop i)=some q->q≠[]->aH (F9.l0 k) f ((d.1,d.2.1,d.2.2.1,e.1,e.2.1,e.2.2.1,leaf,()),(0,0,false,0,()),p,y,l,(l.length:Int),(i:Int),())=some ((pE d e leaf y p (l.drop i),()),((),(),())):=by
 intro n
 induction n with
 |zero=>
  intro i f p K q y U V W Q a c m;obtain⟨f,rfl⟩:∃g,f=g+1:=⟨f-1,by omega⟩;have D:l.drop i=[]:=a2c (by omega);rw[D]at c⊢;simp only[kJ,a0l]at c;subst c;have h:0<p.length:=by rw[Q];exact List.length_pos_iff.2 m
  rw[aD];have E:¬((i:Int)<(l.length:Int)):=by omega
  have F:(0:Int)<=0/\(0:Int)<(p.length:Int):=by omega
  have X:p[(0:Int).toNat]?=some (p.getD 0 dA):=by
   rw[bh h];exact a0a h
  simp only[F9.l0,ap,a0d E,a0f F,X,ac,pE]
 |succ n ih=>
  intro i f p K q y U V W Q a c m;obtain⟨f,rfl⟩:∃g,f=g+1:=⟨f-1,by omega⟩;have o:i<l.length:=by omega
  have D:l.drop i=l[i]::l.drop (i+1):=a1d o;have z:=C _ (a0n o);have G:=rE z;rw[D]at c⊢;simp only[kJ,a2k]at c;obtain⟨Y,H,c⟩:=c;obtain⟨hn,_,I⟩:=kK H;have Z:=Fc B leaf z (iu a (p.length-nT l[i].1)) (iu a (p.length-nT l[i].1+1));have b:=λJ=>ih (i+1) f (p.take (p.length-nT l[i].1)++[((uN d e leaf l[i] (p.getD (p.length-nT l[i].1) dA) (p.getD (p.length-nT l[i].1+1) dA)).1,(uN d e leaf l[i] (p.getD (p.length-nT l[i].1) dA) (p.getD (p.length-nT l[i].1+1) dA)).2.1,())]) Y q J (by omega) (by omega) (by simp;omega) (by rw[I];simp;omega) (λx hx=>by
   rcases a0k.1 hx with hx|hx
   ·exact a x (a3h hx)
   ·rw[a0x.1 hx];exact Z) c m
  have E:((i:Int)<(l.length:Int)):=by omega
  have F:(0:Int)<=(i:Int):=by omega
  have ew:wrap .i64 ((p.length:Int)-((nT l[i].1:Nat):Int))=((p.length-nT l[i].1:Nat):Int):=by rw[aj (by omega) (by omega)];omega
  have L:0<=((p.length-nT l[i].1:Nat):Int)/\((p.length-nT l[i].1:Nat):Int)<=(p.length:Int):=by omega
  have M:∀v:bq,((p.take (p.length-nT l[i].1)).length+([v]:List bq).length)*16<=ag:=by intro v;simp only[a1h,a0h,a0g,ag];omega
  rw[aD];simp only[F9.l0,ap,a0f E,a0f F,a0i,a0a o,ac,rF k _ G,a2a,ew,Fb,a0f L,a0f (M _),cx];rw[aB];simp only[pE];by_cases A:nT l[i].1=0
  ·have r:uN d e leaf l[i] (p.getD (p.length-nT l[i].1) dA) (p.getD (p.length-nT l[i].1+1) dA)=dm (dS e leaf l[i]):=by unfold uN;rw[a0f A]
   have s:=Bp k B.ints leaf z;unfold iQ at s;rw[a0f (show((nT l[i].1:Nat):Int)=0 by omega),s];rw[r]at b⊢;simp only[ac,oM,dm,a0o,ah,a1z];exact b _
  ·rw[a0d (show¬((nT l[i].1:Nat):Int)=0 by omega)]
   have R:p.length-nT l[i].1<p.length:=by omega
   have a1:=iu a (p.length-nT l[i].1);have S:p[p.length-nT l[i].1]?=some (p.getD (p.length-nT l[i].1) dA):=by rw[bh R];exact a0a R
   have j:0<=((p.length-nT l[i].1:Nat):Int)/\((p.length-nT l[i].1:Nat):Int)<(p.length:Int):=by omega
   by_cases N:nT l[i].1=1
   ·have r:uN d e leaf l[i] (p.getD (p.length-nT l[i].1) dA) (p.getD (p.length-nT l[i].1+1) dA)=Df d e l[i] (p.getD (p.length-nT l[i].1) dA):=by unfold uN;rw[a0d A,a0f N]
    have u:=P7 (k:=k) (by omega) B.arrs leaf z a1;unfold iQ at u;rw[a0f (show((nT l[i].1:Nat):Int)=1 by omega),a0f j,S,ac,u,ac];rw[r]at b⊢
    cases hc:(Df d e l[i] (p.getD (p.length-nT l[i].1) dA)).2.2.1
    ·simp only[hc,a0u,ai,a0t,a1y]
     rfl
    ·simp only[hc,a0o,ah,a1z]
     exact b _
   ·have r:uN d e leaf l[i] (p.getD (p.length-nT l[i].1) dA) (p.getD (p.length-nT l[i].1+1) dA)=pC l[i].1 (p.getD (p.length-nT l[i].1) dA) (p.getD (p.length-nT l[i].1+1) dA):=by unfold uN;rw[a0d A,a0d N]
    have R0:=Rb A N;have T:p.length-nT l[i].1+1<p.length:=by omega
    have b1:=iu a (p.length-nT l[i].1+1);have O:wrap .i64 (((p.length-nT l[i].1:Nat):Int)+1)=((p.length-nT l[i].1+1:Nat):Int):=by rw[aj (by omega) (by omega)];omega
    have w:0<=((p.length-nT l[i].1+1:Nat):Int)/\((p.length-nT l[i].1+1:Nat):Int)<(p.length:Int):=by omega
    have P:p[p.length-nT l[i].1+1]?=some (p.getD (p.length-nT l[i].1+1) dA):=by rw[bh T];exact a0a T
    rw[a0d (show¬((nT l[i].1:Nat):Int)=1 by omega),a0f j,S,ac,O,a0f w,a0i,P,ac,HW (by omega) _ a1 b1,ac];rw[r]at b⊢
    cases hc:(pC l[i].1 (p.getD (p.length-nT l[i].1) dA) (p.getD (p.length-nT l[i].1+1) dA)).2.2.1
    ·simp only[hc,a0u,ai,a0t,a1y]
     rfl
    ·simp only[hc,a0o,ah,a1z]
     exact b _
def Fd (k:Nat) {d:aE} {e:bc} (j:Gd d e) (leaf:Int) {t:cL} (f:cO d t=true) (l:nT t.1=0) (m:d.2.1.length<=60):vo k ((d.1,d.2.1,d.2.2.1,()),t,(e.1,e.2.1,e.2.2.1,()),leaf,())=some ((dm (dS e leaf t),()),((),(),(),(),())):=by
 unfold vo dS;simp only[cx];have p:=Q0 l;by_cases a:t.1=2
 ·obtain⟨g,n⟩:=rG f a
  have i:t.2.1.toNat<e.2.1.length:=by rw[j.ints];omega
  rw[a0f a,a0d (show¬t.1=1 by omega),a0f a,a0b g];simp only[ai,a0a i,ac,dM,bh i]
 rw[a0d a];by_cases b:t.1=3
 ·obtain⟨g,n⟩:=E8 f b
  have o:wrap .u64 t.2.1=t.2.1:=by rw[IntKind.wrap_u64];omega
  rw[a0f b,a0d (show¬t.1=1 by omega),a0d a,a0f b,o,a0b g];simp only[ai,dM,ac,HY]
 rw[a0d b];by_cases c:t.1=4
 ·rw[a0f c,a0d (show¬t.1=1 by omega),a0d a,a0d b]
  simp only[dM,ac,c];rfl
 rw[a0d c];by_cases h:t.1=1
 ·rw[a0f h]
  simp only[dM,ac]
 ·rw[a0d h,a0d a,a0d b,Nr f h a b (by omega)]
  have:(t.1==4)=false:=by simpa using c
  simp only[dM,ac,this];rfl
def Dh (k:Nat) (hk:4194304<k) {d:aE} {e:bc} (C:Gd d e) (D:d.2.1.length<=60) (leaf:Int) (l:List cL) (hl:l.length<=40) (E:∀t∈l,cO d t=true):∀(n i f:Nat) (p:List bq) (K r:List Int) (z:Int),i+n=l.length->n<f->p.length<=i->p.length=K.length->(∀x∈p,bi x)->kJ K (l.drop i)=some r->r≠[]->aH (xS.l0 k) f (l,leaf,(d.1,d.2.1,d.2.2.1,()),(e.1,e.2.1,e.2.2.1,()),(0,0,false,0,()),p,z,(i:Int),())=some ((pE d e leaf z p (l.drop i),()),((),(),(),(),())):=by
 intro n
 induction n with
 |zero=>
  intro i f p K r z X Y Z S b h m;obtain⟨f,rfl⟩:∃g,f=g+1:=⟨f-1,by omega⟩;have F:l.drop i=[]:=a2c (by omega);rw[F]at h⊢;simp only[kJ,a0l]at h;subst h;have j:0<p.length:=by rw[S];exact List.length_pos_iff.2 m
  rw[aD];have G:¬((i:Int)<(l.length:Int)):=by omega
  have H:(0:Int)<=0/\(0:Int)<(p.length:Int):=by omega
  have e0:p[(0:Int).toNat]?=some (p.getD 0 dA):=by
   rw[bh j];exact a0a j
  simp only[xS.l0,ap,a0d G,a0f H,e0,ac,pE]
 |succ n ih=>
  intro i f p K r z X Y Z S b h m;obtain⟨f,rfl⟩:∃g,f=g+1:=⟨f-1,by omega⟩;have o:i<l.length:=by omega
  have F:l.drop i=l[i]::l.drop (i+1):=a1d o;have I:=E _ (a0n o);rw[F]at h⊢;simp only[kJ,a2k]at h;obtain⟨K1,J,h⟩:=h;obtain⟨hn,_,L⟩:=kK J;have hv:=Fc C leaf I (iu b (p.length-nT l[i].1)) (iu b (p.length-nT l[i].1+1));have a:=λM=>ih (i+1) f (p.take (p.length-nT l[i].1)++[((uN d e leaf l[i] (p.getD (p.length-nT l[i].1) dA) (p.getD (p.length-nT l[i].1+1) dA)).1,(uN d e leaf l[i] (p.getD (p.length-nT l[i].1) dA) (p.getD (p.length-nT l[i].1+1) dA)).2.1,())]) K1 r M (by omega) (by omega) (by simp;omega) (by rw[L];simp;omega) (λx hx=>by
   rcases a0k.1 hx with hx|hx
   ·exact b x (a3h hx)
   ·rw[a0x.1 hx];exact hv) h m
  have G:((i:Int)<(l.length:Int)):=by omega
  have H:(0:Int)<=(i:Int):=by omega
  have ew:wrap .i64 ((p.length:Int)-((nT l[i].1:Nat):Int))=((p.length-nT l[i].1:Nat):Int):=by rw[aj (by omega) (by omega)];omega
  have N:0<=((p.length-nT l[i].1:Nat):Int)/\((p.length-nT l[i].1:Nat):Int)<=(p.length:Int):=by omega
  have O:∀v:bq,((p.take (p.length-nT l[i].1)).length+([v]:List bq).length)*16<=ag:=by intro v;simp only[a1h,a0h,a0g,ag];omega
  rw[aD];simp only[xS.l0,ap,a0f G,a0f H,a0i,a0a o,ac,kH,ew,Fb,a0f N,a0f (O _),cx];rw[aB (i:=i)];simp only[pE];by_cases q:nT l[i].1=0
  ·have h5:=Q0 q
   have s:uN d e leaf l[i] (p.getD (p.length-nT l[i].1) dA) (p.getD (p.length-nT l[i].1+1) dA)=dm (dS e leaf l[i]):=by unfold uN;rw[a0f q]
   have P:=Fd k C leaf I q D;rw[a0d (show¬((nT l[i].1:Nat):Int)=2 by omega),a0d (show¬l[i].1=7 by omega),a0d (show¬l[i].1=19 by omega),a0d (show¬l[i].1=6 by omega),P];rw[s]at a⊢;simp only[ac,dm,a0o,ah,a1z];exact a _
  ·have T:p.length-nT l[i].1<p.length:=by omega
   have a1:=iu b (p.length-nT l[i].1);have A:p[p.length-nT l[i].1]?=some (p.getD (p.length-nT l[i].1) dA):=by rw[bh T];exact a0a T
   have c:0<=((p.length-nT l[i].1:Nat):Int)/\((p.length-nT l[i].1:Nat):Int)<(p.length:Int):=by omega
   by_cases B:nT l[i].1=1
   ·have s:uN d e leaf l[i] (p.getD (p.length-nT l[i].1) dA) (p.getD (p.length-nT l[i].1+1) dA)=Df d e l[i] (p.getD (p.length-nT l[i].1) dA):=by unfold uN;rw[a0d q,a0f B]
    rw[a0d (show¬((nT l[i].1:Nat):Int)=2 by omega)];rw[s]at a⊢;rcases Ra B with h6|h7|h19
    ·obtain⟨U,V⟩:=De I h6
     have u:l[i].2.1.toNat<e.2.2.1.length:=by rw[C.arrs];exact V
     have hx:d.2.2.1[l[i].2.1.toNat]?=some d.2.2.1[l[i].2.1.toNat]:=a0a V;have w:Df d e l[i] (p.getD (p.length-nT l[i].1) dA)=cond (eB d.2.2.1[l[i].2.1.toNat] (p.getD (p.length-nT l[i].1) dA)) ((e.2.2.1.getD l[i].2.1.toNat (0,0,())).1,(e.2.2.1.getD l[i].2.1.toNat (0,0,())).2.1,true,hY d.2.2.1[l[i].2.1.toNat] (p.getD (p.length-nT l[i].1) dA),()) (0,0,false,hY d.2.2.1[l[i].2.1.toNat] (p.getD (p.length-nT l[i].1) dA),()):=by
      unfold Df;rw[a0f h6,hx]
     rw[w]at a⊢;rw[a0d (show¬l[i].1=7 by omega),a0d (show¬l[i].1=19 by omega),a0f h6,a0f U,a0a u,ac,dM,ac,a0f c,A,ac,a0f U,hx,ac,yn,ac];rw[bh u]at a⊢
     cases hc:eB d.2.2.1[l[i].2.1.toNat] (p.getD (p.length-nT l[i].1) dA)
     ·simp only[a0u,ai,a1q,a0t,a1y]
      rfl
     ·rw[hc]at a
      simp only[a1c]at a;simp only[a0o,ah,a1c,a1z,dm];exact a _
    ·have w:Df d e l[i] (p.getD (p.length-nT l[i].1) dA)=jG fD (0,0,()) (p.getD (p.length-nT l[i].1) dA):=by
      unfold Df;rw[a0d (show¬l[i].1=6 by omega),a0f h7]
     rw[w]at a⊢;rw[a0f h7,a0f c,A,ac,C6 (by omega) a1,ac]
     cases hc:(jG fD (0,0,()) (p.getD (p.length-nT l[i].1) dA)).2.2.1
     ·simp only[hc,a0u,ai,a0t,a1y]
      rfl
     ·simp only[hc,a0o,ah,a1z]
      exact a _
    ·have w:Df d e l[i] (p.getD (p.length-nT l[i].1) dA)=dm (wrap .i64 (1-(p.getD (p.length-nT l[i].1) dA).2.1),wrap .i64 (1-(p.getD (p.length-nT l[i].1) dA).1),()):=by
      unfold Df;rw[a0d (show¬l[i].1=6 by omega),a0d (show¬l[i].1=7 by omega)]
     rw[w]at a⊢;rw[a0d (show¬l[i].1=7 by omega),a0f h19,a0f c,A,ac,a0f c,ac,dM,ac];simp only[dm,a0o,ah,a1z];exact a _
   ·have s:uN d e leaf l[i] (p.getD (p.length-nT l[i].1) dA) (p.getD (p.length-nT l[i].1+1) dA)=pC l[i].1 (p.getD (p.length-nT l[i].1) dA) (p.getD (p.length-nT l[i].1+1) dA):=by unfold uN;rw[a0d q,a0d B]
    have R0:=Rb q B;have W:p.length-nT l[i].1+1<p.length:=by omega
    have b1:=iu b (p.length-nT l[i].1+1);have Q:wrap .i64 (((p.length-nT l[i].1:Nat):Int)+1)=((p.length-nT l[i].1+1:Nat):Int):=by rw[aj (by omega) (by omega)];omega
    have y:0<=((p.length-nT l[i].1+1:Nat):Int)/\((p.length-nT l[i].1+1:Nat):Int)<(p.length:Int):=by omega
    have R:p[p.length-nT l[i].1+1]?=some (p.getD (p.length-nT l[i].1+1) dA):=by rw[bh W];exact a0a W
    rw[a0f (show((nT l[i].1:Nat):Int)=2 by omega),a0f c,A,ac,Q,a0f y,a0i,R,ac,No (by omega) _ a1 b1,ac];rw[s]at a⊢
    cases hc:(pC l[i].1 (p.getD (p.length-nT l[i].1) dA) (p.getD (p.length-nT l[i].1+1) dA)).2.2.1
    ·simp only[hc,a0u,ai,a0t,a1y]
     rfl
    ·simp only[hc,a0o,ah,a1z]
     exact a _
inductive Ex where
 |leaf (t:cL)
 |one (t:cL) (a:Ex)
 |two (t:cL) (a b:Ex)
namespace Ex
def flat:Ex->List cL
 | .leaf t=>[t]
 | .one t a=>a.flat++[t]
 | .two t a b=>a.flat++(b.flat++[t])
def tok:Ex->cL
 | .leaf t=>t
 | .one t _=>t
 | .two t _ _=>t
def kind (x:Ex):Int:=cD x.tok.1
def size:Ex->Nat
 | .leaf _=>1
 | .one _ a=>a.size+1
 | .two _ a b=>a.size+b.size+1
def depth:Ex->Nat
 | .leaf _=>1
 | .one _ a=>a.depth+1
 | .two _ a b=>max a.depth b.depth+1
def Ok (d:aE):Ex->Prop
 | .leaf t=>nT t.1=0/\cO d t=true
 | .one t a=>nT t.1=1/\cO d t=true/\a.kind=kT t.1/\a.Ok d
 | .two t a b=>nT t.1=2/\cO d t=true/\a.kind=kT t.1/\b.kind=kT t.1/\a.Ok d/\b.Ok d
def flat_len:(x:Ex)->x.flat.length=x.size
 | .leaf _=>rfl
 | .one _ a=>by simp[flat,size,flat_len a]
 | .two _ a b=>by simp[flat,size,flat_len a,flat_len b];omega
def size_pos:(x:Ex)->0<x.size
 | .leaf _=>by simp[size]
 | .one _ a=>by simp[size]
 | .two _ a b=>by simp[size]
def depth_le:(x:Ex)->x.depth<=x.size
 | .leaf _=>by simp[size,depth]
 | .one _ a=>by have:=depth_le a;simp[size,depth];omega
 | .two _ a b=>by have:=depth_le a;have:=depth_le b;simp[size,depth];omega
def Ok.tokOk {d:aE} {x:Ex} (h:x.Ok d):Go.Pev.F.cO d x.tok=true:=by
 cases x with
 |leaf t=>exact h.2
 |one t a=>exact h.2.1
 |two t a b=>exact h.2.1
def Ok.all {d:aE}: {x:Ex}->x.Ok d->∀t∈x.flat,Go.Pev.F.cO d t=true
 | .leaf t,h,s,hs=>by simp[flat]at hs;rw[hs];exact h.2
 | .one t a,h,s,hs=>by
  simp[flat]at hs;rcases hs with hs|hs
  ·exact Ok.all h.2.2.2 s hs
  ·rw[hs];exact h.2.1
 | .two t a b,h,s,hs=>by
  simp[flat]at hs;rcases hs with hs|hs|hs
  ·exact Ok.all h.2.2.2.2.1 s hs
  ·exact Ok.all h.2.2.2.2.2 s hs
  ·rw[hs];exact h.2.1
end Ex
def nB (xs:List Ex):List cL:=xs.flatMap Ex.flat
def QH {l:List α} (h:l.length=1):∃a,l=[a]:=List.length_eq_one_iff.1 h
def QJ {l:List α} (h:l.length=2):∃a b,l=[a,b]:=by
 match l,h with
 |[a,b],_=>exact⟨a,b,rfl⟩
def HZ {d:aE}:∀(r:List cL) (xs:List Ex) (i:List Int),(∀x∈xs,x.Ok d)->(∀t∈r,cO d t=true)->kJ (xs.map Ex.kind) r=some i->∃ys:List Ex,(∀y∈ys,y.Ok d)/\i=ys.map Ex.kind/\nB ys=nB xs++r:=by
 intro r
 induction r with
 |nil=>
  intro xs i j _ h;simp only[kJ,a0l]at h;exact⟨xs,j,h.symm,by simp⟩
 |cons t r ih=>
  intro xs i j B h;simp only[kJ,a2k]at h;obtain⟨C,o,h⟩:=h;obtain⟨D,e,p⟩:=kK o;have q:=B t (by simp);simp only[a4e]at D e p;have c:xs=xs.take (xs.length-nT t.1)++xs.drop (xs.length-nT t.1):=(a3u _ _).symm;have l:(xs.drop (xs.length-nT t.1)).length=nT t.1:=by rw[a2p];omega
  rw[<-List.map_drop]at e;rw[<-List.map_take]at p;have f:∀x:Ex,x.Ok d->x.tok=t->(nB (xs.take (xs.length-nT t.1))++x.flat=nB xs++[t])->∃ys:List Ex,(∀y∈ys,y.Ok d)/\i=ys.map Ex.kind/\nB ys=nB xs++t::r:=by
   intro x u v w;have z:C=(xs.take (xs.length-nT t.1)++[x]).map Ex.kind:=by
    rw[p,a3r];simp[Ex.kind,v]
   rw[z]at h;obtain⟨ys,k,m,E⟩:=ih _ i (λy hy=>by
    rcases a0k.1 hy with hy|hy
    ·exact j y (a3h hy)
    ·rw[a0x.1 hy];exact u) (λs o=>B s (by simp[o])) h
   refine⟨ys,k,m,?_⟩;rw[E];have:nB (xs.take (xs.length-nT t.1)++[x])=nB xs++[t]:=by rw[<-w];simp[nB]
   rw[this];simp
  by_cases A:nT t.1=0
  ·refine f (.leaf t) ⟨A,q⟩ rfl ?_
   rw[A];simp[Ex.flat]
  by_cases k:nT t.1=1
  ·obtain⟨a,g⟩:=QH (l.trans k)
   rw[g,k]at e;simp at e;have n:a∈xs:=by rw[c,g];simp
   refine f (.one t a) ⟨k,q,e,j a n⟩ rfl ?_
   rw[g]at c
   conv=>rhs;rw[c]
   simp[nB,Ex.flat]
  ·have m:=Rb A k
   obtain⟨a,b,g⟩:=QJ (l.trans m);rw[g,m]at e;simp at e;have n:a∈xs/\b∈xs:=by rw[c,g];simp
   refine f (.two t a b) ⟨m,q,e.1,e.2,j a n.1,j b n.2⟩ rfl ?_
   rw[g]at c
   conv=>rhs;rw[c]
   simp[nB,Ex.flat]
def Bq {d:aE} {l:List cL} (h:bV d l≠0):∃x:Ex,x.Ok d/\l=x.flat/\bV d l=x.kind/\x.size<=40:=by
 unfold bV at h⊢
 cases hc:(decide (l.length<=40)&& l.all (cO d))with
 |false=>rw[hc]at h;exact absurd rfl h
 |true=>
  rw[hc]at h;simp only[a1c]at h⊢;simp only[a0e,a0v,a1g]at hc
  cases hr:kJ [] l with
  |none=>rw[hr]at h;exact absurd rfl h
  |some K=>
   obtain⟨ys,b,a,c⟩:=HZ l [] K (by simp) hc.2 hr;rw[hr]at h
   match ys,b,a,c with
   |[],_,a,_=>rw[a]at h;exact absurd rfl h
   |[y],b,a,c=>
    have e:l=y.flat:=by simpa [nB]using c.symm
    exact⟨y,b y (by simp),e,by rw[a];rfl,by rw[<-Ex.flat_len,<-e];exact hc.1⟩
   |y::z::r,_,a,_=>rw[a]at h;exact absurd rfl h
def Le (a:Int):BitVec 64:=BitVec.ofInt 64 a
def O2 (n:Int):Le (wrap .i64 n)=Le n:=by
 apply a8h;simp only[Le,a7e];rw[IntKind.wrap_i64];omega
def P8 (x:BitVec 64):Le (x.toNat:Int)=x:=by
 apply a8h;simp only[Le,a7e];have:=x.isLt;omega
def Py (a b:Int):Le (di a b)=Le a|||Le b:=by
 unfold di;rw[O2];exact P8 _
def te (a b:Int):di a b=wrap .i64 (((Le a|||Le b).toNat:Int)):=rfl
def c7 (a b c:Int):di (di a b) c=di a (di b c):=by
 rw[te (di a b),te a (di b c),Py,Py,BitVec.or_assoc]
def Fe (a b:Int):di a b=di b a:=by
 rw[te,te,BitVec.or_comm]
def I1 (h:ax a):wrap .i64 (((Le a).toNat:Int))=a:=by
 obtain⟨b,c⟩:=h;rw[IntKind.wrap_i64];simp only[Le,a7e];omega
def Ff (h:ax a):di 0 a=a:=by
 have e:Le 0=0#64:=rfl;rw[te,e,BitVec.zero_or];exact I1 h
def gG (h:ax a):di a 0=a:=by rw[Fe,Ff h]
def rH (h:ax a):di a a=a:=by
 rw[te,BitVec.or_self];exact I1 h
def rI (a b:Int):ax (di a b):=jg _
def O3 (h:ax a) (b:Int):di a (di a b)=di a b:=by rw[<-c7,rH h]
def cT {c:Bool} (h:c=true) (a b:α):cond c a b=a:=by subst h;rfl
def cF {c:Bool} (h:c=false) (a b:α):cond c a b=b:=by subst h;rfl
def bu (v:jd):bq:=(v.1,v.2.1,())
def aA (v:jd):Bool:=v.2.2.1
def bP (v:jd):Int:=v.2.2.2.1
def dI (a:Int) (v:jd):jd:=cond (aA v) (v.1,v.2.1,true,di a (bP v),()) (0,0,false,di a (bP v),())
def az (d:aE) (e:bc) (leaf:Int):Ex->jd
 | .leaf t=>dm (dS e leaf t)
 | .one t a=>cond (aA (az d e leaf a)) (dI (bP (az d e leaf a)) (Df d e t (bu (az d e leaf a)))) (0,0,false,bP (az d e leaf a),())
 | .two t a b=>cond (aA (az d e leaf a))
  (cond (aA (az d e leaf b)) (dI (di (bP (az d e leaf a)) (bP (az d e leaf b))) (pC t.1 (bu (az d e leaf a)) (bu (az d e leaf b)))) (0,0,false,di (bP (az d e leaf a)) (bP (az d e leaf b)),()))
  (0,0,false,bP (az d e leaf a),())
def yp {v:jd} (h:aA v=true):dI al v=(v.1,v.2.1,true,di al (bP v),()):=by unfold dI;rw[h];rfl
def yq {v:jd} (h:aA v=false):dI al v=(0,0,false,di al (bP v),()):=by unfold dI;rw[h];rfl
def Pz (F:Int->List bq->jd) (e A:Int) (p:List bq) (v:jd):(if v.2.2.1=true then F (di (di e A) v.2.2.2.1) (p++[(v.1,v.2.1,())])else(0,0,false,di (di e A) v.2.2.2.1,()))=if aA (dI A v)=true then F (di e (bP (dI A v))) (p++[bu (dI A v)])else(0,0,false,di e (bP (dI A v)),()):=by
 obtain⟨a,b,c,d,⟨⟩⟩:=v
 cases c<;>simp[dI,aA,bP,bu,c7]
def uO {A:Int} {v:jd} (h:aA (dI A v)=false):dI A v=(0,0,false,bP (dI A v),()):=by
 obtain⟨a,b,c,d,⟨⟩⟩:=v
 cases c
 ·simp[dI,aA,bP]
 ·simp[dI,aA]at h
def tf {d:aE} {e:bc} {t:cL} {a:Ex} (h:aA (az d e leaf a)=true):az d e leaf (.one t a)=dI (bP (az d e leaf a)) (Df d e t (bu (az d e leaf a))):=by
 conv=>lhs;unfold az
 rw[cT h]
def th {d:aE} {e:bc} {t:cL} {a:Ex} (h:aA (az d e leaf a)=false):az d e leaf (.one t a)=(0,0,false,bP (az d e leaf a),()):=by
 conv=>lhs;unfold az
 rw[cF h]
def tj {d:aE} {e:bc} {t:cL} {a b:Ex} (h:aA (az d e leaf a)=false):az d e leaf (.two t a b)=(0,0,false,bP (az d e leaf a),()):=by
 conv=>lhs;unfold az
 rw[cF h]
def tk {d:aE} {e:bc} {t:cL} {a b:Ex} (h:aA (az d e leaf a)=true) (c:aA (az d e leaf b)=false):az d e leaf (.two t a b)=(0,0,false,di (bP (az d e leaf a)) (bP (az d e leaf b)),()):=by
 conv=>lhs;unfold az
 rw[cT h,cF c]
def tl {d:aE} {e:bc} {t:cL} {a b:Ex} (h:aA (az d e leaf a)=true) (c:aA (az d e leaf b)=true):az d e leaf (.two t a b)=dI (di (bP (az d e leaf a)) (bP (az d e leaf b))) (pC t.1 (bu (az d e leaf a)) (bu (az d e leaf b))):=by
 conv=>lhs;unfold az
 rw[cT h,cT c]
def Lf (p:List α) (a z:α):(p++[a]).getD ((p++[a]).length-1) z=a:=by
 simp[List.getD]
def yr (p:List α) (a b z:α):(p++[a]++[b]).getD ((p++[a]++[b]).length-2) z=a/\(p++[a]++[b]).getD ((p++[a]++[b]).length-2+1) z=b:=by
 constructor
 ·simp[List.getD,List.getElem?_append]
 ·simp[List.getD,List.getElem?_append]
def Lg {d:aE} (e:bc) (leaf:Int):∀(x:Ex),x.Ok d->∀(c:Int) (p:List bq) (r:List cL),pE d e leaf c p (x.flat++r)=if aA (az d e leaf x)=true then pE d e leaf (di c (bP (az d e leaf x))) (p++[bu (az d e leaf x)]) r else(0,0,false,di c (bP (az d e leaf x)),()):=by
 intro x
 induction x with
 |leaf t=>
  intro g c p r;have h:nT t.1=0:=g.1;simp only[Ex.flat,a4z,pE,uN,h,a1z,a8a,a1i,az,aA,dm,bu,bP]
 |one t a ih=>
  intro g c p r;have i:nT t.1=1:=g.1;have h:¬nT t.1=0:=by omega
  simp only[Ex.flat,a1u,a4z];rw[ih g.2.2.2];by_cases f:aA (az d e leaf a)=true
  ·rw[a0f f,tf f]
   conv=>lhs;unfold pE
   simp only[uN,a0d h,a0f i];rw[i,Lf];have k:(p++[bu (az d e leaf a)]).take ((p++[bu (az d e leaf a)]).length-1)=p:=by simp
   rw[k];exact Pz (λc p=>pE d e leaf c p r) c _ p _
  ·rw[a0d f,th (by simpa using f)]
   rfl
 |two t a b iha ihb=>
  intro g c p r;have l:nT t.1=2:=g.1;have h:¬nT t.1=0:=by omega
  have i:¬nT t.1=1:=by omega
  simp only[Ex.flat,a1u,a4z];rw[iha g.2.2.2.2.1];by_cases f:aA (az d e leaf a)=true
  ·rw[a0f f,ihb g.2.2.2.2.2]
   by_cases j:aA (az d e leaf b)=true
   ·rw[a0f j,tl f j]
    conv=>lhs;unfold pE
    simp only[uN,a0d h,a0d i];rw[l,(yr p _ _ _).1,(yr p _ _ _).2];have k:(p++[bu (az d e leaf a)]++[bu (az d e leaf b)]).take ((p++[bu (az d e leaf a)]++[bu (az d e leaf b)]).length-2)=p:=by simp
    rw[k];rw[c7 c];exact Pz (λc p=>pE d e leaf c p r) c _ p _
   ·rw[a0d j,tk f (by simpa using j),c7]
    rfl
  ·rw[a0d f,tj (by simpa using f)]
   rfl
def uP {v:jd} (h:nA v):nA (dI al v)/\ax (bP (dI al v)):=by
 unfold dI
 cases aA v
 ·exact⟨⟨bL,bL⟩,rI _ _⟩
 ·exact⟨h,rI _ _⟩
def ce {d:aE} {e:bc} (c:Gd d e) (leaf:Int):∀ {x:Ex},x.Ok d->nA (az d e leaf x)/\ax (bP (az d e leaf x))
 | .leaf t,hx=>⟨uM c.ints c.fi leaf hx.2,bL⟩
 | .one t a,hx=>by
  have h:=ce c leaf hx.2.2.2;simp only[az]
  cases aA (az d e leaf a)
  ·exact⟨⟨bL,bL⟩,h.2⟩
  ·exact uP (E9 c.arrs c.fa hx.2.1 h.1)
 | .two t a b,hx=>by
  have h:=ce c leaf hx.2.2.2.2.1;have f:=ce c leaf hx.2.2.2.2.2;simp only[az]
  cases aA (az d e leaf a)
  ·exact⟨⟨bL,bL⟩,h.2⟩
  ·cases aA (az d e leaf b)
   ·exact⟨⟨bL,bL⟩,rI _ _⟩
   ·exact uP (Bk _ h.1 f.1)
def Lh {d:aE} {e:bc} {x:Ex} (h:aA (az d e leaf x)=false):az d e leaf x=(0,0,false,bP (az d e leaf x),()):=by
 cases x with
 |leaf t=>exact absurd h (by simp[az,aA,dm])
 |one t a=>
  by_cases c:aA (az d e leaf a)=true
  ·rw[tf c]at h⊢
   exact uO h
  ·rw[th (by simpa using c)]
   rfl
 |two t a b=>
  by_cases c:aA (az d e leaf a)=true
  ·by_cases f:aA (az d e leaf b)=true
   ·rw[tl c f]at h⊢
    exact uO h
   ·rw[tk c (by simpa using f)]
    rfl
  ·rw[tj (by simpa using c)]
   rfl
def Br {d:aE} {e:bc} (b:Gd d e) (leaf:Int) {x:Ex} (a:x.Ok d):pE d e leaf 0 [] x.flat=az d e leaf x:=by
 have h:=Lg e leaf x a 0 [] [];rw[a2b]at h;rw[h,Ff (ce b leaf a).2]
 cases hl:aA (az d e leaf x)
 ·rw[a0d (by simp)]
  exact(Lh hl).symm
 ·rw[a0f rfl]
  have:(az d e leaf x).2.2.1=true:=hl;simp only[pE,a1s,bu,bP];simp only[List.getD,a1r,a2r];rw[<-this]
def Fg {d:aE}:∀(x:Ex),x.Ok d->∀(K:List Int) (r:List cL),kJ K (x.flat++r)=kJ (K++[x.kind]) r:=by
 intro x
 induction x with
 |leaf t=>
  intro c K r;simp[Ex.flat,kJ,lr,c.1,Ex.kind,Ex.tok]
 |one t a ih=>
  intro c K r;simp only[Ex.flat,a1u,a4z];rw[ih c.2.2.2];have h:nT t.1=1:=c.1;have f:=c.2.2.1;simp[kJ,lr,h,Ex.kind,Ex.tok]at f⊢;simp[f]
 |two t a b iha ihb=>
  intro c K r;simp only[Ex.flat,a1u,a4z];rw[iha c.2.2.2.2.1,ihb c.2.2.2.2.2];have i:nT t.1=2:=c.1;have f:=c.2.2.1;have g:=c.2.2.2.1;simp[kJ,lr,i,Ex.kind,Ex.tok]at f g⊢;have e:List.drop (K.length+1+1-2) (K++[cD a.tok.1,cD b.tok.1])=[cD a.tok.1,cD b.tok.1]:=by simp
  have j:List.take (K.length+1+1-2) (K++[cD a.tok.1,cD b.tok.1])=K:=by simp
  simp[f,g]
def mV (f:4194304<k) {d:aE} {e:bc} (b:Gd d e) (leaf:Int) {x:Ex} (a:x.Ok d) (g:x.size<=40):F9 k ((d.1,d.2.1,d.2.2.1,e.1,e.2.1,e.2.2.1,leaf,()),x.flat,())=some ((az d e leaf x,()),((),(),())):=by
 have c:=Fg x a [] [];rw[a2b]at c;have h:=Dg k f b leaf x.flat (by rw[Ex.flat_len];exact g) a.all x.flat.length 0 k [] [] [x.kind] 0 (by omega) (by rw[Ex.flat_len];omega) (by simp) rfl (by simp) (by rw[a5a,c];rfl) (by simp);rw[a5a,Br b leaf a]at h;simp only[F9];exact h
def jh (g:4194304<k) {d:aE} {e:bc} (c:Gd d e) (a:d.2.1.length<=60) (leaf:Int) {x:Ex} (b:x.Ok d) (i:x.size<=40):xS k (d,x.flat,e,leaf,())=some ((az d e leaf x,()),((),(),(),(),())):=by
 have f:=Fg x b [] [];rw[a2b]at f;have h:=Dh k g c a leaf x.flat (by rw[Ex.flat_len];exact i) b.all x.flat.length 0 k [] [] [x.kind] 0 (by omega) (by rw[Ex.flat_len];omega) (by simp) rfl (by simp) (by rw[a5a,f];rfl) (by simp);rw[a5a,Br c leaf b]at h;simp only[xS];exact h
abbrev QL:=Int×Int×Int×Bool×List bq×List bq×Unit
instance envDec:DecidableEq bc:=λ_ _=>inferInstance
instance nodeDec:DecidableEq QL:= @instDecidableEqProd Int _ _ (@instDecidableEqProd Int _ _ (@instDecidableEqProd Int _ _ envDec))
def Li (x y:bq):(!((x.1==y.1)&& ((x.2.1==y.2.1)&& true)))= !decide (x=y):=by
 obtain⟨a,b,⟨⟩⟩:=x;obtain⟨c,d,⟨⟩⟩:=y;rw[a3w];simp
def Nt (x y:bc):decide (x=y)=((x.1==y.1)&& (decide (x.2.1=y.2.1)&& decide (x.2.2.1=y.2.2.1))):=by
 obtain⟨a,b,c,⟨⟩⟩:=x;obtain⟨d,e,f,⟨⟩⟩:=y;rw[a3w];simp
def kf (k:Nat) (x:bc) (a:f6 x):CM k (x,())=some ((x,()),((),())):=by
 have d:=a.n1;have e:=a.n2;have b:(([]:List (Int×Int×Unit)).length+x.2.1.length)*16<=ag:=by simp[ag];omega
 have c:(([]:List (Int×Int×Unit)).length+x.2.2.1.length)*16<=ag:=by simp[ag];omega
 unfold CM;simp only[ap,a0f b,a0f c,a1s]
def yt (k:Nat) (a:List bq) (c:a.length<=1048576):Ht k (a,())=some ((a,()),((),())):=by
 have b:(([]:List (Int×Int×Unit)).length+a.length)*16<=ag:=by simp[ag];omega
 unfold Ht;simp only[ap,a0f b,a1s]
 cases a with
 |nil=>simp[ek]
 |cons p r=>simp
def qv (k:Nat) (x:bc) (a:f6 x):zm k (x,())=some ((x,()),((),())):=by
 unfold zm;simp only[yt k _ a.n1,yt k _ a.n2,ac]
def aT (e:bc) (v:Int) (a:bq):bc:=(e.1,e.2.1.set v.toNat a,e.2.2.1,())
def qw (k:Nat) {e:bc} (b:f6 e) (c:0<=v/\v<(e.2.1.length:Int)) (a:bq):IN k (e,v,a,())=some ((aT e v a,()),((),(),(),())):=by
 have d:v.toNat<e.2.1.length:=by omega
 simp only[IN,qv k e b,ac];rw[a0b c,a0a d];simp only[ai,ac,aT]
def gH (k:Nat) {e:bc} (b:f6 e) (c:0<=v/\v<(e.2.1.length:Int)) (a:bq):CO k (e,v,a,())=some ((aT e v a,()),((),(),(),())):=by
 have d:v.toNat<e.2.1.length:=by omega
 simp only[CO,kf k e b,ac];rw[a0b c,a0a d];simp only[ai,ac,aT]
def Lj {d:aE} {e:bc} (b:Gd d e) {a:bq} (c:bi a):Gd d (aT e v a):=by
 refine⟨by simp only[aT,a4s];exact b.ints,b.arrs,λx f=> ?_,b.fa⟩;rcases a2s f with h|h
 ·exact b.fi x h
 ·rw[h];exact c
def fM (a b:List bq):List bq:=List.zipWith eX a b
def pT (a b:List bq):List bq:=List.zipWith mQ a b
def ma (f:α->α->α) (a b:List α) (c:i<a.length) (d:i<b.length):List.zipWith f (a.take (i+1)) (b.take (i+1))=List.zipWith f (a.take i) (b.take i)++[f a[i] b[i]]:=by
 rw[a2m c,a2m d,a6y (by simp;omega)];rfl
def Bs (a b:List bq) (f:a.length=b.length) (g:a.length<=1000) (h:1000<k):vg k (a,b,(),())=some ((pT a b,()),((),(),(),())):=by
 simp only[vg];refine bg (b:=vg.l0 k) (λi=>(b,(),pT (a.take i) (b.take i),a,(a.length:Int),(i:Int),())) a.length (λG i c=> ?_) (λG=> ?_) (by omega)
 ·have d:i<b.length:=by omega
  have e:(pT (a.take i) (b.take i)).length<=1000:=by unfold pT;simp;omega
  simp only[vg.l0];rw[a0b (show(i:Int)<(a.length:Int) by omega),a0b (show(0:Int)<=(i:Int) by omega)];simp only[ai,a0i,a0a c,a0a d,ac,uz];rw[a0b (show((pT (a.take i) (b.take i)).length+([mQ a[i] b[i]]:List bq).length)*16<=ag by simp only[a0h,a0g,ag];omega),ai,aB (i:=i)];unfold pT;rw[ma mQ a b c d]
 ·simp only[vg.l0]
  rw[a0m (show¬(a.length:Int)<(a.length:Int) by omega),ah,a1i,f,a1i]
def tm:(a b:List bq)->(∀x∈a,bo x=true)->(∀x∈b,bo x=true)->pT a b=fM a b
 |[],b,_,_=>by simp[pT,fM]
 |x::a,[],_,_=>by simp[pT,fM]
 |x::a,y::b,ha,hb=>by
  have ih:=tm a b (λz c=>ha z (by simp[c])) (λz c=>hb z (by simp[c]));have e:mQ x y=eX x y:=by
   unfold mQ bJ;rw[ha x (by simp),hb y (by simp)];rfl
  unfold pT fM at ih⊢;simp only[a3p,e,ih]
def cE (a b:bc):bc:=cond a.1 (cond b.1 (true,fM a.2.1 b.2.1,fM a.2.2.1 b.2.2.1,()) a) b
def uQ {a b:bc} (g:f6 a) (h:f6 b) (i:a.1=true->b.1=true->a.2.1.length=b.2.1.length/\a.2.2.1.length=b.2.2.1.length) (c:a.2.1.length<=1000/\a.2.2.1.length<=1000) (d:1000<k) (e:(∀x∈a.2.1,bo x=true)/\∀x∈a.2.2.1,bo x=true) (f:(∀x∈b.2.1,bo x=true)/\∀x∈b.2.2.1,bo x=true):EJ k (a,b,(),())=some ((cE a b,()),((),(),(),())):=by
 simp only[EJ,qv k a g,qv k b h,ac,cE]
 cases h1:a.1
 ·simp
 ·cases h2:b.1
  ·simp
   rw[<-h1]
  ·obtain⟨l1,l2⟩:=i h1 h2
   simp only[a0o,ah,Bs _ _ l1 c.1 d,Bs _ _ l2 c.2 d,ac,tm _ _ e.1 f.1,tm _ _ e.2 f.2,a1c]
def mW (k:Nat) {e:bc} (h:e.2.1.length+e.2.2.1.length<=1000):Hx k (e,())=some ((e.2.1++e.2.2.1,()),((),())):=by
 simp only[Hx,a1s,a0g];rw[a0b (show(0+e.2.1.length)*16<=ag by unfold ag;omega),a0b (show(e.2.1.length+e.2.2.1.length)*16<=ag by unfold ag;omega)];simp only[ai]
def Fh (k:Nat) (l:List bq) (a:n<=l.length) (b:l.length<=1000):Aa k (l,(n:Int),())=some (((true,l.take n,l.drop n,()),()),((),(),())):=by
 simp only[Aa,a1s,a0g,a0i];rw[a0b (show 0<=(n:Int)/\(n:Int)<=(l.length:Int) by omega),a0b (show(0+(l.take n).length)*16<=ag by simp only[a1h,ag];omega),a0b (show(0+(l.drop n).length)*16<=ag by simp only[a2p,ag];omega)];simp only[ai]
def oN {a b:bc} (l:f6 a) (m:f6 b) (n:a.1=true->b.1=true->a.2.1.length=b.2.1.length/\a.2.2.1.length=b.2.2.1.length) (o:a.2.1.length+a.2.2.1.length<=1000) (d:b.2.1.length+b.2.2.1.length<=1000) (p:1000<k):vL k (a,b,())=some ((cE a b,()),((),(),())):=by
 simp only[vL,kf k a l,kf k b m,ac,cE]
 cases h1:a.1
 ·simp
 ·cases h2:b.1
  ·simp
   rw[<-h1]
  ·obtain⟨l1,l2⟩:=n h1 h2
   simp only[a0o,ah,mW k o,mW k d,ac,a1c];have e:(a.2.1++a.2.2.1).length=(b.2.1++b.2.2.1).length:=by simp;omega
   have q:(a.2.1++a.2.2.1).length<=1000:=by simp;omega
   have g:fM (a.2.1++a.2.2.1) (b.2.1++b.2.2.1)=fM a.2.1 b.2.1++fM a.2.2.1 b.2.2.1:=by
    unfold fM;exact a6y l1
   refine bg (b:=vL.l0 k) (λi=>((true,a.2.1,a.2.2.1,()),(false,[],[],()),a.2.1++a.2.2.1,b.2.1++b.2.2.1,fM ((a.2.1++a.2.2.1).take i) ((b.2.1++b.2.2.1).take i),(i:Int),())) (a.2.1++a.2.2.1).length (λG i h=> ?_) (λG=> ?_) (by omega)
   ·have c:i<(b.2.1++b.2.2.1).length:=by omega
    have j:(fM ((a.2.1++a.2.2.1).take i) ((b.2.1++b.2.2.1).take i)).length<=1000:=by unfold fM;rw[a2l,a1h];omega
    simp only[vL.l0];rw[a0b (show(i:Int)<((a.2.1++a.2.2.1).length:Int) by omega),a0b (show 0<=(i:Int)/\(i:Int)<((a.2.1++a.2.2.1).length:Int) by omega),a0b (show 0<=(i:Int)/\(i:Int)<((b.2.1++b.2.2.1).length:Int) by omega)];simp only[ai,a0i,a0a h,a0a c,ac,oI];rw[a0b (by simp only[a0h,a0g,ag];omega),ai,aB (i:=i)]
    congr 1
    unfold fM;rw[ma eX _ _ h c]
   ·simp only[vL.l0]
    have f:(fM a.2.1 b.2.1).length=a.2.1.length:=by unfold fM;rw[a2l];omega
    rw[a0m (show¬((a.2.1++a.2.2.1).length:Int)<((a.2.1++a.2.2.1).length:Int) by omega),ah,a1i,e,a1i,g,Fh k _ (by rw[a0j];omega) (by rw[<-g];unfold fM;rw[a2l];omega)];simp only[ac];rw[<-f,a6r,a8p]
def bm:bc:=(false,[],[],())
def iL (op:Int):Int:=if op=15\/op=16 then op else if op=13 then 17 else if op=14 then 18 else if op=17 then 13 else 14
def gY (x:Ex):Bool:=match x with
 | .leaf t=>t.1==2
 |_=>false
def gO (op:Int) (x:Ex) (e:bc) (v:bq):bc:=cond (gY x) (cond (kZ op (e.2.1.getD x.tok.2.1.toNat dA) v).2.1 (aT e x.tok.2.1 (kZ op (e.2.1.getD x.tok.2.1.toNat dA) v).1) bm) e
def nC (d:aE) (leaf:Int) (op:Int) (a b:Ex) (e:bc):bc:=cond (aA (az d e leaf a)&& aA (az d e leaf b)) (cond (gO op a e (bu (az d e leaf b))).1 (gO (iL op) b (gO op a e (bu (az d e leaf b))) (bu (az d e leaf a))) bm) bm
def gv (d:aE) (leaf:Int):Ex->Bool->bc->bc
 | .leaf t,want,e=>cond e.1 (if(dS e leaf t).1=pD want then e else bm) bm
 | .one _ a,want,e=>cond e.1 (gv d leaf a (!want) e) bm
 | .two t a b,want,e=>cond e.1 (if 13<=t.1/\t.1<=18 then nC d leaf (cond want t.1 (31-t.1)) a b e else if(t.1==20)=want then gv d leaf b want (gv d leaf a want e)else cE (gv d leaf a want e) (gv d leaf b want e)) bm
def aV (d:aE) (e:bc):Prop:=(e.1=true/\Gd d e/\(∀x∈e.2.1,bo x=true)/\∀x∈e.2.2.1,bo x=true)\/e=bm
def dN (d:aE):aV d bm:=Or.inr rfl
def bf {d:aE} {e:bc} (h:aV d e) (a:e.1=true):Gd d e/\(∀x∈e.2.1,bo x=true)/\∀x∈e.2.2.1,bo x=true:=by
 rcases h with h|h
 ·exact h.2
 ·rw[h]at a;cases a
def po {d:aE} {e:bc} (h:aV d e) (a:e.1=false):e=bm:=by
 rcases h with h|h
 ·rw[h.1]at a;cases a
 ·exact h
def bD {d:aE} (a:aO d=true) {e:bc} (h:aV d e):f6 e/\e.2.1.length<=5/\e.2.2.1.length<=2:=by
 obtain⟨b,c,f⟩:d.1.length<=5/\d.2.1.length<=3/\d.2.2.1.length<=2:=by
  simp only[aO,a0e,a0v]at a;exact a.1
 rcases h with h|h
 ·have:=h.2.1.ints
  have:=h.2.1.arrs;exact⟨⟨by omega,by omega⟩,by omega,by omega⟩
 ·rw[h];exact⟨⟨by simp[bm],by simp[bm]⟩,by simp[bm],by simp[bm]⟩
def rJ {a b:bq} (h:(dR a b).2.1=true):bo (dR a b).1=true:=by
 unfold dR at h⊢
 cases hc:(bJ a b&& bo (ir a b))
 ·rw[hc]at h;exact absurd h (by simp)
 ·simp only[a0e]at hc
  exact hc.2
def Di {c:bq} (h:(yh c).2.1=true):bo (yh c).1=true:=by
 unfold yh at h⊢
 cases hc:bo c
 ·rw[hc]at h;exact absurd h (by simp[HR])
 ·exact hc
def PA (r:Da):Prop:=r.2.1=true->bo r.1=true
def rK:PA HR:=λh=>by cases h
def Lk (op:Int) (a b:bq):PA (kZ op a b):=by
 unfold kZ
 cases hc:(decide (13<=op/\op<=18)&& bJ a b)
 ·exact rK
 ·have c:a.1<=a.2.1:=by
   simp only[a0e,bJ,bo,a0v]at hc;exact hc.2.1
  simp only[a1c];split
  ·exactλh=>rJ h
  split
  ·unfold mU
   split
   ·exactλ_=>a0b c
   split
   ·exact rK
   split
   ·exactλ_=>a0b (by simp only;omega)
   ·exactλ_=>a0b (by simp only;omega)
  split
  ·exactλh=>Di h
  split
  ·exactλh=>Di h
  split
  ·split
   ·exact rK
   ·exactλh=>Di h
  ·split
   ·exact rK
   ·exactλh=>Di h
def Nu {d:aE} {e:bc} (h:e.1=true/\Gd d e/\(∀x∈e.2.1,bo x=true)/\∀x∈e.2.2.1,bo x=true) (v:Int) {a:bq} (b:bi a) (c:bo a=true):aV d (aT e v a):=by
 refine Or.inl ⟨h.1,Lj h.2.1 b,λx f=> ?_,h.2.2.2⟩;rcases a2s f with h'|h'
 ·exact h.2.2.1 x h'
 ·rw[h'];exact c
def yu {d:aE} {e:bc} (g:Gd d e) {x:Ex} (h:x.Ok d) (c:gY x=true):∃t:cL,x= .leaf t/\t.1=2/\0<=t.2.1/\t.2.1.toNat<e.2.1.length:=by
 cases x with
 |leaf t=>
  have f:t.1=2:=by simpa [gY]using c
  obtain⟨i,j⟩:=rG h.2 f;exact⟨t,rfl,f,i,by rw[g.ints];exact j⟩
 |one t a=>cases c
 |two t a b=>cases c
def lu {d:aE} (op:Int) {x:Ex} (j:x.Ok d) {e:bc} (c:aV d e) (f:e.1=true) {v:bq} (k:bi v):aV d (gO op x e v):=by
 obtain⟨a,g,l⟩:=bf c f;unfold gO
 cases hq:gY x
 ·exact c
 ·obtain⟨t,rfl,m,n,h⟩:=yu a j hq
  simp only[Ex.tok];have i:e.2.1.getD t.2.1.toNat dA∈e.2.1:=by rw[bh h];exact a0n h
  by_cases b:(kZ op (e.2.1.getD t.2.1.toNat dA) v).2.1=true
  ·rw[cT rfl,cT b]
   exact Nu ⟨f,a,g,l⟩ _ (Nn op (a.fi _ i) k (g _ i)) (Lk op _ _ b)
  ·rw[cT rfl,cF (by simpa using b)]
   exact dN d
def H0 {d:aE} (leaf op:Int) {a b:Ex} (f:a.Ok d) (h:b.Ok d) {e:bc} (i:aV d e) (j:e.1=true):aV d (nC d leaf op a b e):=by
 obtain⟨k,m,n⟩:=bf i j;unfold nC;by_cases l:(aA (az d e leaf a)&& aA (az d e leaf b))=true
 ·rw[cT l]
  have g:=lu op f i j (ce k leaf h).1;by_cases c:(gO op a e (bu (az d e leaf b))).1=true
  ·rw[cT c]
   exact lu _ h g c (ce k leaf f).1
  ·rw[cF (by simpa using c)];exact dN d
 ·rw[cF (by simpa using l)];exact dN d
def mX {P:bq->Prop} {f:bq->bq->bq} (c:∀x y,P x->P y->P (f x y)):(a b:List bq)->(∀x∈a,P x)->(∀x∈b,P x)->∀x∈List.zipWith f a b,P x
 |[],b,_,_=>by simp
 |x::a,[],_,_=>by simp
 |x::a,y::b,ha,hb=>by
  intro z hz;simp only[a3p,a1j]at hz;rcases hz with hz|hz
  ·rw[hz];exact c x y (ha x (by simp)) (hb y (by simp))
  ·exact mX c a b (λz hz=>ha z (by simp[hz])) (λz hz=>hb z (by simp[hz])) z hz
def Dj {a b:bq} (c:bo a=true) (d:bo b=true):bo (eX a b)=true:=by
 simp only[bo,a0v]at c d⊢;simp only[eX];split<;>split<;>omega
def tp {d:aE} {a b:bc} (j:aV d a) (k:aV d b):aV d (cE a b):=by
 unfold cE;by_cases f:a.1=true
 ·by_cases i:b.1=true
  ·rw[cT f,cT i]
   obtain⟨g,l,m⟩:=bf j f;obtain⟨h,n,o⟩:=bf k i;have l1:=g.ints;have l2:=h.ints;have p:=g.arrs;have q:=h.arrs;exact Or.inl ⟨rfl,⟨by simp only[fM,a2l];omega,by simp only[fM,a2l];omega,
    mX (λx y c e=>tc c e) _ _ g.fi h.fi,mX (λx y c e=>tc c e) _ _ g.fa h.fa⟩,
    mX (λx y c e=>Dj c e) _ _ l n,mX (λx y c e=>Dj c e) _ _ m o⟩
  ·rw[cT f,cF (by simpa using i)];exact j
 ·rw[cF (by simpa using f)];exact k
def fX {d:aE} (leaf:Int):∀ {x:Ex},x.Ok d->∀(c:Bool) {e:bc},aV d e->aV d (gv d leaf x c e)
 | .leaf t,hx,c,e,he=>by
  unfold gv;by_cases f:e.1=true
  ·rw[cT f]
   split
   ·exact he
   ·exact dN d
  ·rw[cF (by simpa using f)];exact dN d
 | .one t a,hx,c,e,he=>by
  unfold gv;by_cases f:e.1=true
  ·rw[cT f]
   exact fX leaf hx.2.2.2 (!c) he
  ·rw[cF (by simpa using f)];exact dN d
 | .two t a b,hx,c,e,he=>by
  unfold gv;by_cases f:e.1=true
  ·rw[cT f]
   split
   ·exact H0 leaf _ hx.2.2.2.2.1 hx.2.2.2.2.2 he f
   split
   ·exact fX leaf hx.2.2.2.2.2 c (fX leaf hx.2.2.2.2.1 c he)
   ·exact tp (fX leaf hx.2.2.2.2.1 c he) (fX leaf hx.2.2.2.2.2 c he)
  ·rw[cF (by simpa using f)];exact dN d
abbrev Dk:=Int×Int×List cL×Unit
def fO:Ex->cg Dk
 | .leaf t=> .node (t.1,t.2.1,[t],()) []
 | .one t a=> .node (t.1,t.2.1,a.flat++[t],()) [fO a]
 | .two t a b=> .node (t.1,t.2.1,a.flat++(b.flat++[t]),()) [fO a,fO b]
def P9 (x:Ex):(fO x).lab=(x.tok.1,x.tok.2.1,x.flat,()):=by
 cases x<;>rfl
def tq (l:List cL) (N:l.length<=40) (g:∀t∈l,1<=t.1/\t.1<=21) (h:i<l.length) (P C:List (cg Dk)) (F S:List Int) (I:C.length=nT l[i].1) (J:S.length=C.length) (A:F.length=P.length) (O:P.length<=40) (s:Nat)
 (f:if nT l[i].1=0 then s=i else S[0]?=some (s:Int)) (K:s<=i+1) (G):
 A6.l0 k G (l,P++C,F++S,l,(l.length:Int),(i:Int),())=G (l,P++[.node (l[i].1,l[i].2.1,(l.take (i+1)).drop s,()) C],F++[(s:Int)],l,(l.length:Int),((i+1:Nat):Int),()):=by
 have Q:=E6 l[i].1;have B:((i:Int)<(l.length:Int)):=by omega
 have D:(0:Int)<=(i:Int):=by omega
 have a:=g _ (a0n h);have j:wrap .i64 (((P++C).length:Int)-((nT l[i].1:Nat):Int))=(P.length:Int):=by rw[aj (by simp;omega) (by simp;omega)];simp;omega
 have m:aM (P++C) P.length ((P++C).length-P.length)=C:=by unfold aM;simp
 have n:aM (P++C) 0 (P.length-0)=P:=by unfold aM;simp
 have o:aM (F++S) 0 (P.length-0)=F:=by unfold aM;simp[<-A]
 have a1:0<=(P.length:Int)/\(P.length:Int)<=((P++C).length:Int):=by simp only[a0j];omega
 have p:0<=(P.length:Int)/\(P.length:Int)<=((F++S).length:Int):=by simp;omega
 have b:∀v:cg Dk,(P.length+([v]:List (cg Dk)).length)*8<=ag:=by intro v;simp only[a0h,a0g,ag];omega
 have c:∀v:Int,(F.length+([v]:List Int).length)*8<=ag:=by intro v;simp only[a0h,a0g,ag];omega
 have d:(([]:List (cg Dk)).length+C.length)*8<=ag:=by simp only[a0g,ag];omega
 have E:wrap .i64 ((i:Int)+1)=((i+1:Nat):Int):=aB;by_cases H:nT l[i].1=0
 ·have q:C=[]:=a4n.1 (by omega)
  subst q;have e:S=[]:=a4n.1 (by simpa using J);subst e;rw[a0f H]at f;subst f;simp only[a2b]at j a1 p m n o⊢;have r:¬((P.length:Int)<(P.length:Int)):=by omega
  have u:0<=(s:Int)/\(s:Int)<=((s+1:Nat):Int)/\((s+1:Nat):Int)<=(l.length:Int):=by omega
  have w:aM P P.length (P.length-P.length)=([]:List (cg Dk)):=m;have x:aM P 0 (P.length-0)=P:=n;have y:aM F 0 (P.length-0)=F:=o;simp only[A6.l0,ap,a0f B,a0f D,a0i,a0a h,ac,rF k _ a,a2a,j,a0d r,E,a0f u,a0f a1,a0f p,w,x,y,a3l,List.isEmpty_nil,ai,vS,a0f (b _),a0f (c _)];rw[a0f d];exact vS _
 ·have e:0<S.length:=by omega
  rw[a0d H]at f;have r:((P.length:Int)<((P++C).length:Int)):=by simp;omega
  have L:0<=(P.length:Int)/\(P.length:Int)<((F++S).length:Int):=by simp;omega
  have M:(F++S)[P.length]?=some (s:Int):=by rw[a0y (by omega),A,Nat.sub_self];exact f
  have u:0<=(s:Int)/\(s:Int)<=((i+1:Nat):Int)/\((i+1:Nat):Int)<=(l.length:Int):=by omega
  have z:C.isEmpty=false:=by cases C with|nil=>simp at I;omega|cons _ _=>rfl
  simp only[A6.l0,ap,a0f B,a0f D,a0i,a0a h,ac,rF k _ a,a2a,j,a0f r,a0f L,M,E,a0f u,a0f a1,a0f p,m,n,o,a3l,z,ah,a0f d,a0f (b _),a0f (c _),a1s]
def mY {l a b:List α} (h:l.drop i=a++b):l.drop (i+a.length)=b:=by
 rw[<-a4o,h];simp
def yw {l b:List α} {t:α} (h:l.drop i=t::b):∃a:i<l.length,l[i]=t:=by
 have a:i<l.length:=by
  by_cases a:i<l.length
  ·exact a
  ·rw[a2c (by omega)]at h;cases h
 refine⟨a,?_⟩;rw[a1d a]at h;exact(List.cons.inj h).1
def yx {l a b:List α} (h:l.drop i=a++b):(l.take (i+a.length)).drop i=a:=by
 rw[a8l,h];simp
def Ll (l:List cL) (v:l.length<=40) (p:∀t∈l,1<=t.1/\t.1<=21) {d:aE}:∀(x:Ex),x.Ok d->∀(r:List cL) (i f:Nat) (P:List (cg Dk)) (F:List Int),l.drop i=x.flat++r->F.length=P.length->P.length<=i->aH (A6.l0 k) (x.size+f) (l,P,F,l,(l.length:Int),(i:Int),())=aH (A6.l0 k) f (l,P++[fO x],F++[(i:Int)],l,(l.length:Int),((i+x.size:Nat):Int),()):=by
 intro x
 induction x with
 |leaf t=>
  intro g r i f P F j m u;obtain⟨q,n⟩:=yw (show l.drop i=t::r from j);have w:nT l[i].1=0:=by rw[n];exact g.1
  have h:=tq (k:=k) l v p q P [] F [] (by rw[w];rfl) rfl m (by omega) i (by rw[a0f w]) (by omega) (aH (A6.l0 k) f);rw[a2b,a2b]at h;show aH (A6.l0 k) (1+f) _=_;rw[show 1+f=f+1 by omega,aD,h];have o:=yx (a:=[t]) (show l.drop i=[t]++r from j);simp only[a0h,a0g]at o;rw[o,n];rfl
 |one t a ih=>
  intro g r i f P F j m u;have e:l.drop i=a.flat++([t]++r):=by rw[j];simp[Ex.flat]
  show aH (A6.l0 k) (a.size+1+f) _=_;rw[show a.size+1+f=a.size+(f+1) by omega,ih g.2.2.2 _ i (f+1) P F e m u];have c:=mY e;rw[Ex.flat_len]at c;obtain⟨q,n⟩:=yw (show l.drop (i+a.size)=t::r from c);have y:nT l[i+a.size].1=1:=by rw[n];exact g.1
  have h:=tq (k:=k) l v p q P [fO a] F [(i:Int)] (by rw[y];rfl) rfl m (by omega) i (by rw[ifNegQ];rfl) (by omega) (aH (A6.l0 k) f);rw[aD,h];have o:=yx (a:=a.flat++[t]) (b:=r) (i:=i) (l:=l) (by rw[j];rfl);rw[a0j,Ex.flat_len,a8i,<-a2n]at o;rw[o,n];rfl
 |two t a b iha ihb=>
  intro g r i f P F j m u;have e:l.drop i=a.flat++(b.flat++([t]++r)):=by rw[j];simp[Ex.flat]
  show aH (A6.l0 k) (a.size+b.size+1+f) _=_;rw[show a.size+b.size+1+f=a.size+(b.size+(f+1)) by omega,iha g.2.2.2.2.1 _ i _ P F e m u];have c:=mY e;rw[Ex.flat_len]at c;have z:=a.size_pos;rw[ihb g.2.2.2.2.2 _ (i+a.size) (f+1) _ _ c (by simp[m]) (by simp;omega)];have s:=mY c;rw[Ex.flat_len]at s;obtain⟨q,n⟩:=yw (show l.drop (i+a.size+b.size)=t::r from s);have A:nT l[i+a.size+b.size].1=2:=by rw[n];exact g.1
  have h:=tq (k:=k) l v p q P [fO a,fO b] F [(i:Int),((i+a.size:Nat):Int)] (by rw[A];rfl) rfl m (by omega) i (by rw[ifNegQ];rfl) (by omega) (aH (A6.l0 k) f);rw[aD,a1u,a1u];refine Eq.trans h ?_
  have o:=yx (a:=a.flat++(b.flat++[t])) (b:=r) (i:=i) (l:=l) (by rw[j];rfl);rw[a0j,a0j,Ex.flat_len,Ex.flat_len,a8i,<-a2n,<-a2n]at o;rw[o,n,show i+(Ex.two t a b).size=i+a.size+b.size+1 by simp only[Ex.size];omega];rfl
def Lm (j:100<k) {d:aE} {x:Ex} (a:x.Ok d) (l:x.size<=40):A6 k (x.flat,())=some ((fO x,()),((),())):=by
 have b:=Ex.flat_len x;have h:=Ll (k:=k) x.flat (by omega) (λt c=>rE (a.all t c)) x a [] 0 (k-x.size) [] [] (by simp) rfl (by simp);simp only[A6];rw[show x.size+(k-x.size)=k by omega]at h;refine Eq.trans h ?_
 obtain⟨f,e⟩:∃f,k-x.size=f+1:=⟨k-x.size-1,by omega⟩;have g:¬(((0+x.size:Nat):Int)<(x.flat.length:Int)):=by omega
 have i:(0:Int)<=0/\(0:Int)<(([fO x]:List (cg Dk)).length:Int):=by simp
 rw[e,aD];simp only[A6.l0,ap,a0d g,a1s,a0f i,a3l,a1r,ac]
def Bt (k:Nat) (a:13<=op) (b:op<=18):rj k (op,())=some ((iL op,()),((),())):=by
 have:op=13\/op=14\/op=15\/op=16\/op=17\/op=18:=by omega
 rcases this with rfl|rfl|rfl|rfl|rfl|rfl<;>simp[rj,iL]
def yy {d:aE} {x:Ex} (e:x.Ok d):(x.tok.1==2)=gY x:=by
 cases x with
 |leaf t=>rfl
 |one t a=>
  have:nT t.1=1:=e.1;have c:¬t.1=2:=λh=>by rw[h]at this;simp[nT]at this
  simp[Ex.tok,gY,c]
 |two t a b=>
  have:nT t.1=2:=e.1;have c:¬t.1=2:=λh=>by rw[h]at this;simp[nT]at this
  simp[Ex.tok,gY,c]
def kg {x:Ex} {e:bc} {v:bq} (h:gY x=false):gO op x e v=e:=by unfold gO;rw[cF h]
def kj {x:Ex} {e:bc} {v:bq} (h:gY x=true) (a:(kZ op (e.2.1.getD x.tok.2.1.toNat dA) v).2.1=true):gO op x e v=aT e x.tok.2.1 (kZ op (e.2.1.getD x.tok.2.1.toNat dA) v).1:=by unfold gO;rw[cT h,cT a]
def ji {x:Ex} {e:bc} {v:bq} (h:gY x=true) (a:(kZ op (e.2.1.getD x.tok.2.1.toNat dA) v).2.1=false):gO op x e v=bm:=by unfold gO;rw[cT h,cF a]
def rL {d:aE} {a b:Ex} {e:bc} (h:(aA (az d e leaf a)&& aA (az d e leaf b))=false):nC d leaf op a b e=bm:=by unfold nC;rw[cF h]
def Bu {d:aE} {a b:Ex} {e:bc} (h:(aA (az d e leaf a)&& aA (az d e leaf b))=true) (c:(gO op a e (bu (az d e leaf b))).1=false):nC d leaf op a b e=bm:=by unfold nC;rw[cT h,cF c]
def rM {d:aE} {a b:Ex} {e:bc} (h:(aA (az d e leaf a)&& aA (az d e leaf b))=true) (c:(gO op a e (bu (az d e leaf b))).1=true):nC d leaf op a b e=gO (iL op) b (gO op a e (bu (az d e leaf b))) (bu (az d e leaf a)):=by unfold nC;rw[cT h,cT c]
def uR (F:4194304<k) {d:aE} (M:aO d=true) (leaf:Int) (G:13<=op) (H:op<=18) {a b:Ex} (r:a.Ok d) (u:b.Ok d) (N:a.size<=40) (O:b.size<=40) {e:bc} (w:aV d e) (o:e.1=true):zW k ((d.1,d.2.1,d.2.2.1,e.1,e.2.1,e.2.2.1,leaf,()),op,fO a,fO b,())=some ((nC d leaf op a b e,()),((),(),(),(),())):=by
 obtain⟨p,T,U⟩:=bf w o;have A:=(bD M w).1;have I:bi (bu (az d e leaf a)):=(ce p leaf r).1;have J:bi (bu (az d e leaf b)):=(ce p leaf u).1;simp only[zW,P9,mV F p leaf r N,mV F p leaf u O,ac];have P:(az d e leaf a).2.2.1=aA (az d e leaf a):=rfl;have Q:(az d e leaf b).2.2.1=aA (az d e leaf b):=rfl;have B:((az d e leaf a).1,(az d e leaf a).2.1,())=bu (az d e leaf a):=rfl;have C:((az d e leaf b).1,(az d e leaf b).2.1,())=bu (az d e leaf b):=rfl;rw[P,Q,B,C,yy r,yy u]
 cases hla:aA (az d e leaf a)
 ·simp only[a0u,ai,a0c]
  rw[rL (by rw[hla];rfl)];rfl
 cases hlb:aA (az d e leaf b)
 ·simp only[a0u,a0o,ah,ai,a0c]
  rw[rL (by rw[hla,hlb];rfl)];rfl
 have i:(aA (az d e leaf a)&& aA (az d e leaf b))=true:=by rw[hla,hlb];rfl
 have s:zm k ((e.1,e.2.1,e.2.2.1,()),())=some ((e,()),((),())):=qv k e A;simp only[a0o,ah,a0c,s,ac];have g:∀m:bc,aV d m->m.1=true->m.2.1.length=e.2.1.length->gY b=true->0<=b.tok.2.1/\b.tok.2.1<(m.2.1.length:Int)/\m.2.1[b.tok.2.1.toNat]?=some (m.2.1.getD b.tok.2.1.toNat dA)/\bi (m.2.1.getD b.tok.2.1.toNat dA):=by
  intro m y D K c;obtain⟨L,V,W⟩:=bf y D;obtain⟨t,rfl,q,l,f⟩:=yu L u c;refine⟨l,by simp only[Ex.tok];omega,?_,?_⟩
  ·simp only[Ex.tok];rw[bh f];exact a0a f
  ·simp only[Ex.tok];rw[bh f];exact L.fi _ (a0n f)
 cases hva:gY a
 ·have n:=kg (op:=op) (x:=a) (e:=e) (v:=bu (az d e leaf b)) hva
  simp only[ah];rw[rM i (by rw[n];exact o),n]
  cases c:gY b
  ·simp only[ah]
   rw[kg c]
  ·obtain⟨l,f,q,z⟩:=g e w o rfl c
   simp only[ai,Bt k G H,ac,a0b (And.intro l f),q,ju k (iL op) z I];by_cases j:(kZ (iL op) (e.2.1.getD b.tok.2.1.toNat dA) (bu (az d e leaf a))).2.1=true
   ·rw[kj c j]
    simp only[j,a0o,ah,aT]
   ·rw[ji c (by simpa using j)]
    simp only[a3z]at j;simp only[j,a0u,ai,bm]
 ·obtain⟨l,f⟩:0<=a.tok.2.1/\a.tok.2.1.toNat<e.2.1.length:=by
   obtain⟨t,rfl,q,l,f⟩:=yu p r hva;exact⟨l,f⟩
  have R:e.2.1[a.tok.2.1.toNat]?=some (e.2.1.getD a.tok.2.1.toNat dA):=by rw[bh f];exact a0a f
  have S:bi (e.2.1.getD a.tok.2.1.toNat dA):=by rw[bh f];exact p.fi _ (a0n f)
  have E:0<=a.tok.2.1/\a.tok.2.1<(e.2.1.length:Int):=by omega
  simp only[ai,a0b E,R,ac,ju k op S J];by_cases j:(kZ op (e.2.1.getD a.tok.2.1.toNat dA) (bu (az d e leaf b))).2.1=true
  ·have n:=kj (op:=op) (x:=a) (e:=e) (v:=bu (az d e leaf b)) hva j
   have y:=lu op r w o J;rw[n]at y;rw[rM i (by rw[n];exact o),n];simp only[j,a0o,ah]
   cases c:gY b
   ·simp only[ah]
    rw[kg c];rfl
   ·obtain⟨l,f,q,z⟩:=g _ y o (by simp[aT]) c
    simp only[aT]at l f q z;simp only[ai,Bt k G H,ac,a0b (And.intro l f),q,ju k (iL op) z I];by_cases h:(kZ (iL op) ((aT e a.tok.2.1 (kZ op (e.2.1.getD a.tok.2.1.toNat dA) (bu (az d e leaf b))).1).2.1.getD b.tok.2.1.toNat dA) (bu (az d e leaf a))).2.1=true
    ·rw[kj c h]
     simp only[aT]at h⊢;simp only[h,a0o,ah]
    ·rw[ji c (by simpa using h)]
     simp only[aT,a3z]at h;simp only[h,a0u,ai,bm]
  ·have n:=ji (op:=op) (x:=a) (e:=e) (v:=bu (az d e leaf b)) hva (by simpa using j)
   rw[Bu i (by rw[n];rfl)];simp only[a3z]at j;simp only[j,a0u,ai,bm]
def tr {d:aE} {t:cL} {a:Ex} (e:(Ex.one t a).Ok d) (f:(Ex.one t a).kind=2):t.1=19/\a.kind=2:=by
 have g:nT t.1=1:=e.1;have b:cD t.1=2:=f;have c:=e.2.2.1;rcases Ra g with h|h|h
 ·rw[h]at b;simp[cD]at b
 ·rw[h]at b;simp[cD]at b
 ·refine⟨h,?_⟩
  rw[c,h];rfl
def tu {d:aE} {t:cL} {a b:Ex} (g:(Ex.two t a b).Ok d) (l:(Ex.two t a b).kind=2):(13<=t.1/\t.1<=18)\/((t.1=20\/t.1=21)/\a.kind=2/\b.kind=2):=by
 have i:nT t.1=2:=g.1;have c:cD t.1=2:=l;have m:=rE g.2.1;have j:13<=t.1:=by
  unfold cD at c;unfold nT at i;by_cases n:t.1<=5
  ·rw[a0f n]at i;omega
  ·rw[ifNegQ]at c
   by_cases k:t.1<=12
   ·rw[a0f k]at c;omega
   ·omega
 by_cases e:t.1<=18
 ·exact Or.inl ⟨j,e⟩
 ·have o:t.1≠19:=λh=>by rw[h]at i;simp[nT]at i
  have f:kT t.1=2:=by unfold kT;rw[ifNegQ,a0d e]
  exact Or.inr ⟨by omega,by rw[g.2.2.1,f],by rw[g.2.2.2.1,f]⟩
def km {d:aE} {x:Ex} {e:bc} (h:e.1=false):gv d leaf x want e=bm:=by
 cases x<;>(unfold gv;rw[cF h])
def Bv {d:aE} {t:cL} {e:bc} (h:e.1=true):gv d leaf (.leaf t) want e=if(dS e leaf t).1=pD want then e else bm:=by
 conv=>lhs;unfold gv
 rw[cT h]
def Fi {d:aE} {t:cL} {a:Ex} {e:bc} (h:e.1=true):gv d leaf (.one t a) want e=gv d leaf a (!want) e:=by
 conv=>lhs;unfold gv
 rw[cT h]
def Fj {d:aE} {t:cL} {a b:Ex} {e:bc} (h:e.1=true):gv d leaf (.two t a b) want e=if 13<=t.1/\t.1<=18 then nC d leaf (cond want t.1 (31-t.1)) a b e else if(t.1==20)=want then gv d leaf b want (gv d leaf a want e)else cE (gv d leaf a want e) (gv d leaf b want e):=by
 conv=>lhs;unfold gv
 rw[cT h]
def H1 (S:4194304<k) {d:aE} (A:aO d=true) (leaf:Int):∀(x:Ex),x.Ok d->x.kind=2->x.size<=40->∀(c:Bool) (e:bc),aV d e->∀f,x.depth<f->aH (nH.f k) f ((d.1,d.2.1,d.2.2.1,e.1,e.2.1,e.2.2.1,leaf,()),fO x,c,())=some ((gv d leaf x c e,()),((),(),(),())):=by
 intro x
 induction x with
 |leaf t=>
  intro j p J c e n f K;obtain⟨f,rfl⟩:∃g,f=g+1:=⟨f-1,by omega⟩;rw[aD];have i:(fO (.leaf t)).lab=(t.1,t.2.1,[t],()):=rfl;simp only[nH.f,i]
  cases hl:e.1
  ·rw[km hl]
   simp only[a0u,ai,bm]
  ·obtain⟨Z,hi,hr⟩:=bf n hl
   have h0:nT t.1=0:=j.1;have h5:=Q0 h0;have v:=Bp k Z.ints leaf j.2;unfold iQ at v;rw[hl]at v;have B:zm k ((true,e.2.1,e.2.2.1,()),())=some ((e,()),((),())):=by
    have:=qv k e (bD A n).1;rw[<-hl];exact this
   have o:(t.1==19)=false:=by simp;omega
   have w:(t.1==20)=false:=by simp;omega
   have q:(t.1==21)=false:=by simp;omega
   have y:decide (13<=t.1/\t.1<=18)=false:=by simp;omega
   have C:ve k ((d.1,d.2.1,d.2.2.1,true,e.2.1,e.2.2.1,leaf,()),(t.1,t.2.1,()),())=some ((dS e leaf t,()),((),(),())):=v;simp only[a0o,ah,o,w,q,a0c,dh,y,ac,C,pn,B];rw[Bv hl];by_cases r:(dS e leaf t).1=pD c
   ·have:((dS e leaf t).1 !=pD c)=false:=by simp[r]
    rw[a0f r,this,ah]
   ·have:((dS e leaf t).1 !=pD c)=true:=by simp[r]
    rw[a0d r,this,ai];rfl
 |one t a ih=>
  intro j p J c e n f K;obtain⟨f,rfl⟩:∃g,f=g+1:=⟨f-1,by omega⟩;obtain⟨M,z⟩:=tr j p;rw[aD];have i:(fO (.one t a)).lab=(t.1,t.2.1,a.flat++[t],()):=rfl;have l:(fO (.one t a)).kids=[fO a]:=rfl;simp only[nH.f,i,l]
  cases hl:e.1
  ·rw[km hl]
   simp only[a0u,ai,bm]
  ·have N:(t.1==19)=true:=by simp[M]
   have:=ih j.2.2.2 z (by simp only[Ex.size]at J;omega) (!c) e n f (by simp only[Ex.depth]at K;omega);rw[hl]at this;simp only[a0o,ah,N,ai,a0b (show(0:Int)<=0 by omega),a3l,a1r,ac,this];rw[Fi hl]
 |two t a b iha ihb=>
  intro j p J c e n f K;obtain⟨f,rfl⟩:∃g,f=g+1:=⟨f-1,by omega⟩;rw[aD];have i:(fO (.two t a b)).lab=(t.1,t.2.1,a.flat++(b.flat++[t]),()):=rfl;have l:(fO (.two t a b)).kids=[fO a,fO b]:=rfl;have m:a.size<=40/\b.size<=40:=by simp only[Ex.size]at J;omega
  have D:a.depth<f/\b.depth<f:=by simp only[Ex.depth]at K;omega
  simp only[nH.f,i,l]
  cases hl:e.1
  ·rw[km hl]
   simp only[a0u,ai,bm]
  ·have T:((0:Int).toNat)=0:=rfl
   have U:((1:Int).toNat)=1:=rfl;have V:([fO a,fO b]:List (cg Dk))[1]?=some (fO b):=rfl;rw[Fj hl];rcases tu j p with⟨s,u⟩|⟨E,z,O⟩
   ·have o:(t.1==19)=false:=by simp;omega
    have w:(t.1==20)=false:=by simp;omega
    have q:(t.1==21)=false:=by simp;omega
    have aC:=uR S A leaf (op:=t.1) s u j.2.2.2.2.1 j.2.2.2.2.2 m.1 m.2 n hl;have F:=uR S A leaf (op:=31-t.1) (by omega) (by omega) j.2.2.2.2.1 j.2.2.2.2.2 m.1 m.2 n hl;rw[hl]at aC F;rw[a0f ⟨s,u⟩];simp only[a0o,ah,o,w,q,a0c,dh,a0b (And.intro s u),ac,ai,uK k s u,a0b (show(0:Int)<=0 by omega),a0b (show(0:Int)<=1 by omega),T,U,a1r,V,aC,F]
    cases c
    ·simp only[a0u,ai,a1q]
    ·simp only[a0o,ah,a1c]
   ·have o:(t.1==19)=false:=by simp;omega
    have y:¬(13<=t.1/\t.1<=18):=by omega
    have W:=iha j.2.2.2.2.1 z m.1 c e n f D.1;have X:=λe' P=>ihb j.2.2.2.2.2 O m.2 c e' P f D.2
    have L:=fX leaf j.2.2.2.2.1 c n;have Q:=fX leaf j.2.2.2.2.2 c n;have G:=X e n;have R:=X _ L;rw[hl]at W G;have hj:EJ k (gv d leaf a c e,gv d leaf b c e,(()),())=some ((cE (gv d leaf a c e) (gv d leaf b c e),()),((),(),(),())):=by
     have s1:=bD A L;have s2:=bD A Q;refine uQ s1.1 s2.1 (λl1 l2=> ?_) (by omega) (by omega) ?_ ?_
     ·have Y:=(bf L l1).1
      have E2:=(bf Q l2).1;exact⟨Y.ints.trans E2.ints.symm,Y.arrs.trans E2.arrs.symm⟩
     ·rcases L with h|h
      ·exact h.2.2
      ·rw[h];simp[bm]
     ·rcases Q with h|h
      ·exact h.2.2
      ·rw[h];simp[bm]
    rw[a0d y];have H:(br k (t.1==20) (br k c (some (true,())) (br k (t.1==21) (some (!c,())) (some (false,())))) (br k (t.1==21) (some (!c,())) (some (false,()))):Option (Bool×Unit))=some ((t.1==20)==c,()):=by
     rcases E with h20|h21
     ·have q:(t.1==21)=false:=by simp;omega
      rw[h20]
      cases c<;>simp
     ·rw[h21]
      cases c<;>simp
    have I:(br k (t.1==20) (some (true,())) (some (t.1==21,())):Option (Bool×Unit))=some (true,()):=by
     rcases E with h20|h21
     ·rw[h20];simp
     ·rw[h21];simp
    simp only[a0o,ah,o,H,I,a0c,ai,a0b (show(0:Int)<=0 by omega),a0b (show(0:Int)<=1 by omega),T,U,a1r,V,ac,W,G,R,hj];by_cases r:(t.1==20)=c
    ·rw[a0f r,r,BEq.rfl,ai]
    ·have:((t.1==20)==c)=false:=by simpa using r
     rw[a0d r,this,ah]
def c9 (d:aE) (leaf:Int) (x:Ex) (a:Bool) (e:bc):bc:=cond (aA (az d e leaf x)&& hasV (bu (az d e leaf x)) (pD a)) (gv d leaf x a e) bm
where hasV (a:bq) (n:Int):Bool:=eu a n
def Nv (h:4194304<k) {d:aE} (l:aO d=true) (leaf:Int) {x:Ex} (b:x.Ok d) (c:x.kind=2) (f:x.size<=40) (a:Bool) {e:bc} (i:aV d e) (j:e.1=true):KA k ((d.1,d.2.1,d.2.2.1,e.1,e.2.1,e.2.2.1,leaf,()),x.flat,a,())=some ((c9 d leaf x a e,bP (az d e leaf x),()),((),(),(),())):=by
 obtain⟨m,r,s⟩:=bf i j;have n:=H1 h l leaf x b c f a e i k (by have:=x.depth_le;omega);have g:nH k ((d.1,d.2.1,d.2.2.1,e.1,e.2.1,e.2.2.1,leaf,()),fO x,a,())=some ((gv d leaf x a e,()),((),(),(),())):=n;have o:(az d e leaf x).2.2.1=aA (az d e leaf x):=rfl;have p:((az d e leaf x).1,(az d e leaf x).2.1,())=bu (az d e leaf x):=rfl;have q:(az d e leaf x).2.2.2.1=bP (az d e leaf x):=rfl;simp only[KA,mV h m leaf b f,ac,pn,mR,Lm (show 100<k by omega) b f,g];rw[o,p,q];unfold c9 c9.hasV
 cases j:aA (az d e leaf x)
 ·simp only[a0u,ai,a0c,a3q,a1q,bm]
 ·cases hh:eu (bu (az d e leaf x)) (pD a)
  ·simp only[a0o,ah,a0u,ai,a0c,a1n,a1q,bm]
  ·simp only[a0o,ah,a0c,a1n,a1c]
def dB {d:aE} (leaf:Int) {x:Ex} (b:x.Ok d) (a:Bool) {e:bc} (c:aV d e):aV d (c9 d leaf x a e):=by
 unfold c9
 cases hc:(aA (az d e leaf x)&& c9.hasV (bu (az d e leaf x)) (pD a))
 ·exact dN d
 ·exact fX leaf b a c
def H2 (l:List cL) (B:l.length<=40) {d:aE}:∀(x:Ex),x.Ok d->∀(A r:List cL) (m f:Nat),l=A++(x.flat++r)->m+x.size<=80->aH (qr.l0 k) (x.size+f) (l,((m+1:Nat):Int),((A.length+x.size:Nat):Int)-1,())=if m=0 then some (((A.length:Int),()),((),(),()))else aH (qr.l0 k) f (l,(m:Int),(A.length:Int)-1,()):=by
 have step:∀(t:cL) (A r:List cL) (c f:Nat),l=A++(t::r)->c<=80->aH (qr.l0 k) (f+1) (l,((c+1:Nat):Int),(A.length:Int),())=if c+nT t.1=0 then some (((A.length:Int),()),((),(),()))else aH (qr.l0 k) f (l,((c+nT t.1:Nat):Int),(A.length:Int)-1,()):=by
  intro t A r c f e C;have D:A.length<l.length:=by rw[e];simp
  have n:l[A.length]?=some t:=by rw[e,a0y (a1m _)];simp
  have s:=E6 t.1;have w1:wrap .i64 (((c+1:Nat):Int)-1)=(c:Int):=by rw[aj (by omega) (by omega)];omega
  have u:wrap .i64 ((c:Int)+(nT t.1:Int))=((c+nT t.1:Nat):Int):=by rw[aj (by omega) (by omega)];omega
  have v:wrap .i64 ((A.length:Int)-1)=(A.length:Int)-1:=aj (by omega) (by omega);rw[aD];simp only[qr.l0,a0b (show(A.length:Int)>=0 by omega),a0b (show 0<=(A.length:Int) by omega),ai,a0i,n,ac,kH,w1,u,v,cx];by_cases p:c+nT t.1=0
  ·rw[a0f p,ifPosQ]
  ·rw[a0d p,ifNegQ]
 intro x
 induction x with
 |leaf t=>
  intro g A r m f e i;have w:nT t.1=0:=g.1;have:=step t A r m f e (by simp only[Ex.size]at i;omega);rw[w]at this;refine Eq.trans ?_ this
  have j:(((A.length+(Ex.leaf t).size:Nat):Int)-1)=(A.length:Int):=by simp only[Ex.size];omega
  rw[j,show(Ex.leaf t).size+f=f+1 by simp only[Ex.size];omega]
 |one t a ih=>
  intro g A r m f e i;have y:nT t.1=1:=g.1;have h:l=(A++a.flat)++(t::r):=by rw[e];simp[Ex.flat]
  have o:m+(a.size+1)<=80:=i;have:=step t (A++a.flat) r m (a.size+f) h (by omega);rw[y,ifNegQ,a0j,Ex.flat_len]at this;have j:(((A.length+(Ex.one t a).size:Nat):Int)-1)=((A.length+a.size:Nat):Int):=by simp only[Ex.size];omega
  rw[j,show(Ex.one t a).size+f=a.size+f+1 by simp only[Ex.size];omega,this];exact ih g.2.2.2 A (t::r) m f (by rw[e];simp[Ex.flat]) (by omega)
 |two t a b iha ihb=>
  intro g A r m f e i;have z:nT t.1=2:=g.1;have h:l=(A++(a.flat++b.flat))++(t::r):=by rw[e];simp[Ex.flat]
  have o:m+(a.size+b.size+1)<=80:=i;have:=step t (A++(a.flat++b.flat)) r m (b.size+(a.size+f)) h (by omega);rw[z,ifNegQ,a0j,a0j,Ex.flat_len,Ex.flat_len]at this;have j:(((A.length+(Ex.two t a b).size:Nat):Int)-1)=((A.length+(a.size+b.size):Nat):Int):=by simp only[Ex.size];omega
  rw[j,show(Ex.two t a b).size+f=b.size+(a.size+f)+1 by simp only[Ex.size];omega,this];have E:l.length=A.length+((Ex.two t a b).size+r.length):=by rw[e];simp[Ex.flat_len]
  have F:(Ex.two t a b).size=a.size+b.size+1:=rfl;have q:=ihb g.2.2.2.2.2 (A++a.flat) (t::r) (m+1) (a.size+f) (by rw[e];simp[Ex.flat]) (by have:=a.size_pos;omega);rw[ifNegQ,a0j,Ex.flat_len]at q;rw[show A.length+(a.size+b.size)=A.length+a.size+b.size by omega];refine Eq.trans q ?_
  exact iha g.2.2.2.2.1 A (b.flat++(t::r)) m f (by rw[e];simp[Ex.flat]) (by omega)
def Nw (c:100<k) {d:aE} {x:Ex} (a:x.Ok d) (e:x.size<=40) (A r:List cL) (b:(A++(x.flat++r)).length<=40):qr k (A++(x.flat++r),((A.length+x.size:Nat):Int)-1,())=some (((A.length:Int),()),((),(),())):=by
 have h:=H2 (k:=k) (A++(x.flat++r)) b x a A r 0 (k-x.size) rfl (by omega);rw[a0f rfl,show x.size+(k-x.size)=k by omega]at h;exact h
def Bw (k:Nat) (a:13<=op) (b:op<=18):Hz k (op,())=some ((iL op,()),((),())):=by
 have:op=13\/op=14\/op=15\/op=16\/op=17\/op=18:=by omega
 rcases this with rfl|rfl|rfl|rfl|rfl|rfl<;>simp[Hz,iL,IntKind.wrap_i64]
def I2 (k:Nat) {d:aE} {x:Ex} (c:x.Ok d):(br k ((x.flat.length:Int)==1) (br k (decide (0<=(0:Int))) (bd k (x.flat[(0:Int).toNat]?) λy=>some (y.1==2,())) none) (some (false,())):Option (Bool×Unit))=some (gY x,()):=by
 cases x with
 |leaf t=>simp[Ex.flat,gY]
 |one t a=>
  have:(((Ex.one t a).flat.length:Int)==1)=false:=by
   rw[Ex.flat_len];have:=a.size_pos;simp only[Ex.size];simp;omega
  rw[this,ah];rfl
 |two t a b=>
  have:(((Ex.two t a b).flat.length:Int)==1)=false:=by
   rw[Ex.flat_len];have:=a.size_pos;simp only[Ex.size];simp;omega
  rw[this,ah];rfl
def Fk (H:4194304<k) {d:aE} (A:aO d=true) (leaf:Int) (I:13<=op) (J:op<=18) {a b:Ex} (o:a.Ok d) (p:b.Ok d) (P:a.size<=40) (Q:b.size<=40) {e:bc} (B:aV d e) (q:e.1=true):Af k (d,a.flat,b.flat,op,e,leaf,())=some ((nC d leaf op a b e,()),((),(),(),(),(),(),())):=by
 obtain⟨r,X,Y⟩:=bf B q;have R:d.2.1.length<=3:=by
  simp only[aO,a0e,a0v]at A;exact A.1.2.1
 have s:=(bD A B).1;have K:bi (bu (az d e leaf a)):=(ce r leaf o).1;have L:bi (bu (az d e leaf b)):=(ce r leaf p).1;simp only[Af,jh H r (by omega) leaf o P,jh H r (by omega) leaf p Q,ac,I2 k o,I2 k p,a0c];have S:(az d e leaf a).2.2.1=aA (az d e leaf a):=rfl;have T:(az d e leaf b).2.2.1=aA (az d e leaf b):=rfl;have C:((az d e leaf a).1,(az d e leaf a).2.1,())=bu (az d e leaf a):=rfl;have D:((az d e leaf b).1,(az d e leaf b).2.1,())=bu (az d e leaf b):=rfl;rw[S,T,C,D]
 cases hla:aA (az d e leaf a)
 ·simp only[a0u,ai,a0c]
  rw[rL (by rw[hla];rfl)];rfl
 cases hlb:aA (az d e leaf b)
 ·simp only[a0u,a0o,ah,ai,a0c]
  rw[rL (by rw[hla,hlb];rfl)];rfl
 have h:(aA (az d e leaf a)&& aA (az d e leaf b))=true:=by rw[hla,hlb];rfl
 simp only[a0o,ah,a0c];have first:∀ {x:Ex},x.Ok d->gY x=true->x.flat[0]?=some x.tok:=by
  intro x Z M
  cases x with
  |leaf t=>rfl
  |one t a=>cases M
  |two t a b=>cases M
 have g:∀m:bc,aV d m->m.1=true->m.2.1.length=e.2.1.length->gY b=true->0<=b.tok.2.1/\b.tok.2.1<(m.2.1.length:Int)/\m.2.1[b.tok.2.1.toNat]?=some (m.2.1.getD b.tok.2.1.toNat dA)/\bi (m.2.1.getD b.tok.2.1.toNat dA):=by
  intro m u E N c;obtain⟨O,i1,r1⟩:=bf u E;obtain⟨t,rfl,w,i,f⟩:=yu O p c;refine⟨i,by simp only[Ex.tok];omega,?_,?_⟩
  ·simp only[Ex.tok];rw[bh f];exact a0a f
  ·simp only[Ex.tok];rw[bh f];exact O.fi _ (a0n f)
 cases hva:gY a
 ·have n:=kg (op:=op) (x:=a) (e:=e) (v:=bu (az d e leaf b)) hva
  simp only[ah];rw[rM h (by rw[n];exact q),n]
  cases c:gY b
  ·simp only[ah]
   rw[kg c]
  ·obtain⟨i,f,w,F⟩:=g e B q rfl c
   simp only[ai,Bw k I J,ac,a0b (show(0:Int)<=0 by omega),a3l,first p c,a0b i,w,ju,lL k (iL op) F K,gH k s (And.intro i f)];by_cases j:(kZ (iL op) (e.2.1.getD b.tok.2.1.toNat dA) (bu (az d e leaf a))).2.1=true
   ·rw[kj c j]
    simp only[j,a0o,ah,aT]
   ·rw[ji c (by simpa using j)]
    simp only[a3z]at j;simp only[j,a0u,ai,bm]
 ·obtain⟨i,f⟩:0<=a.tok.2.1/\a.tok.2.1.toNat<e.2.1.length:=by
   obtain⟨t,rfl,w,i,f⟩:=yu r o hva;exact⟨i,f⟩
  have U:e.2.1[a.tok.2.1.toNat]?=some (e.2.1.getD a.tok.2.1.toNat dA):=by rw[bh f];exact a0a f
  have V:bi (e.2.1.getD a.tok.2.1.toNat dA):=by rw[bh f];exact r.fi _ (a0n f)
  have G:0<=a.tok.2.1/\a.tok.2.1<(e.2.1.length:Int):=by omega
  simp only[ai,a0b (show(0:Int)<=0 by omega),a3l,first o hva,a0b i,U,ac,lL k op V L,gH k s G];by_cases j:(kZ op (e.2.1.getD a.tok.2.1.toNat dA) (bu (az d e leaf b))).2.1=true
  ·have n:=kj (op:=op) (x:=a) (e:=e) (v:=bu (az d e leaf b)) hva j
   have u:=lu op o B q L;rw[n]at u;rw[rM h (by rw[n];exact q),n];simp only[j,a0o,ah]
   cases c:gY b
   ·simp only[ah]
    rw[kg c]
   ·obtain⟨i,f,w,F⟩:=g _ u q (by simp[aT]) c
    have y:=(bD A u).1;have W:=λz=>gH k y (And.intro i f) z
    simp only[ai,Bw k I J,ac,a0b (show(0:Int)<=0 by omega),a3l,first p c,a0b (And.intro i f),w,lL k (iL op) F K];by_cases l:(kZ (iL op) ((aT e a.tok.2.1 (kZ op (e.2.1.getD a.tok.2.1.toNat dA) (bu (az d e leaf b))).1).2.1.getD b.tok.2.1.toNat dA) (bu (az d e leaf a))).2.1=true
    ·rw[kj c l]
     simp only[l,a0o,ah];rw[W,ac]
    ·rw[ji c (by simpa using l)]
     simp only[a3z]at l;simp only[l,a0u,ai,bm]
  ·have n:=ji (op:=op) (x:=a) (e:=e) (v:=bu (az d e leaf b)) hva (by simpa using j)
   rw[Bu h (by rw[n];rfl)];simp only[a3z]at j;simp only[j,a0u,ai,bm]
def H3 (N:4194304<k) {d:aE} (v:aO d=true) (leaf:Int):∀(x:Ex),x.Ok d->x.kind=2->x.size<=40->∀(c:Bool) (e:bc),aV d e->∀f,x.depth<f->aH (nI.f k) f (d,x.flat,c,e,leaf,())=some ((gv d leaf x c e,()),((),(),(),(),(),())):=by
 have Q:d.2.1.length<=3:=by
  simp only[aO,a0e,a0v]at v;exact v.1.2.1
 intro x
 induction x with
 |leaf t=>
  intro i m C c e j f D;obtain⟨f,rfl⟩:∃g,f=g+1:=⟨f-1,by omega⟩;rw[aD];have l:(Ex.leaf t).flat=[t]:=rfl;simp only[nI.f,l]
  cases hl:e.1
  ·rw[km hl,<-po j hl]
   simp only[a0u,ai]
  ·obtain⟨R,hi,hr⟩:=bf j hl
   have E:nT t.1=0:=i.1;have h5:=Q0 E;have w:wrap .i64 ((([t]:List cL).length:Int)-1)=0:=by rw[aj (by simp) (by simp)];simp
   have q:(t.1==19)=false:=by simp;omega
   have y:=Fd k R leaf i.2 E (by omega);have r:vo k (d,t,e,leaf,())=some ((dm (dS e leaf t),()),((),(),(),(),())):=y;have S:(dm (dS e leaf t)).1=(dS e leaf t).1:=rfl;simp only[a0o,ah,w,a0b (show(0:Int)<=0 by omega),ai,a3l,a1r,ac,q,kH,E,r,ym,S,cx];rw[a0d (show¬t.1=19 by omega),a0f (show((0:Nat):Int)=0 from rfl),Bv hl];by_cases n:(dS e leaf t).1=pD c
   ·rw[a0f n,a0f n]
   ·rw[a0d n,a0d n]
    rfl
 |one t a ih=>
  intro i m C c e j f D;obtain⟨f,rfl⟩:∃g,f=g+1:=⟨f-1,by omega⟩;obtain⟨F,s⟩:=tr i m;rw[aD];have l:(Ex.one t a).flat=a.flat++[t]:=rfl;simp only[nI.f,l]
  cases hl:e.1
  ·rw[km hl,<-po j hl]
   simp only[a0u,ai]
  ·have z:(a.flat++[t]).length=a.size+1:=by simp[Ex.flat_len]
   have G:a.size+1<=40:=C;have w:wrap .i64 (((a.flat++[t]).length:Int)-1)=(a.size:Int):=by rw[aj (by omega) (by omega)];omega
   have H:(a.flat++[t])[a.size]?=some t:=by rw[a0y (by rw[Ex.flat_len];exact a1m _),Ex.flat_len];simp
   have T:(a.flat++[t]).take a.size=a.flat:=by rw[<-Ex.flat_len a,a6r]
   have I:(t.1==19)=true:=by simp[F]
   have:=ih i.2.2.2 s (by omega) (!c) e j f (by simp only[Ex.depth]at D;omega);simp only[a0o,ah,w,a0b (show 0<=(a.size:Int) by omega),a0b (show 0<=(a.size:Int)/\(a.size:Int)<=((a.flat++[t]).length:Int) by omega),ai,a0i,H,ac,I,T,this];rw[Fi hl]
 |two t a b iha ihb=>
  intro i m C c e j f D;obtain⟨f,rfl⟩:∃g,f=g+1:=⟨f-1,by omega⟩;rw[aD];have l:(Ex.two t a b).flat=a.flat++(b.flat++[t]):=rfl;simp only[nI.f,l]
  cases hl:e.1
  ·rw[km hl,<-po j hl]
   simp only[a0u,ai]
  ·have G:a.size+b.size+1<=40:=C
   have u:a.depth<f/\b.depth<f:=by simp only[Ex.depth]at D;omega
   have J:nT t.1=2:=i.1;have z:(a.flat++(b.flat++[t])).length=a.size+b.size+1:=by simp[Ex.flat_len];omega
   have w:wrap .i64 (((a.flat++(b.flat++[t])).length:Int)-1)=((a.size+b.size:Nat):Int):=by rw[aj (by omega) (by omega)];omega
   have U:wrap .i64 (((a.size+b.size:Nat):Int)-1)=((a.flat.length+b.size:Nat):Int)-1:=by have:=a.size_pos;rw[aj (by omega) (by omega),Ex.flat_len]
   have H:(a.flat++(b.flat++[t]))[a.size+b.size]?=some t:=by
    rw[a0y (by rw[Ex.flat_len];omega),Ex.flat_len,a0y (by rw[Ex.flat_len];omega),Ex.flat_len,show a.size+b.size-a.size-b.size=0 by omega];rfl
   have K:=Nw (k:=k) (by omega) i.2.2.2.2.2 (by omega) a.flat [t] (by omega);have V:(a.flat++(b.flat++[t])).take a.flat.length=a.flat:=a6r;have W:((a.flat++(b.flat++[t])).take (a.size+b.size)).drop a.flat.length=b.flat:=by
    rw[<-a1u,<-Ex.flat_len a,<-Ex.flat_len b,<-a0j,a6r,a8p]
   have X:=Ex.flat_len a;have ia:=iha i.2.2.2.2.1;have q:(t.1==19)=false:=by
    have:t.1≠19:=λh=>by rw[h]at J;simp[nT]at J
    simpa using this
   simp only[a0o,ah,w,a0b (show 0<=((a.size+b.size:Nat):Int) by omega),ai,a0i,H,ac,q,kH,J,U,K,V,W,a0b (show 0<=(a.flat.length:Int)/\(a.flat.length:Int)<=((a.flat++(b.flat++[t])).length:Int) by omega),a0b (show 0<=(a.flat.length:Int)/\(a.flat.length:Int)<=((a.size+b.size:Nat):Int)/\((a.size+b.size:Nat):Int)<=((a.flat++(b.flat++[t])).length:Int) by omega)];have Y:((((2:Nat):Int))==0)=false:=rfl;rw[Y,ah,Fj hl];simp only[ro,jt,ac];rcases tu i m with⟨o,p⟩|⟨Z,s,A⟩
   ·have aC:=Fk N v leaf (op:=t.1) o p i.2.2.2.2.1 i.2.2.2.2.2 (by omega) (by omega) j hl
    have L:=Fk N v leaf (op:=31-t.1) (by omega) (by omega) i.2.2.2.2.1 i.2.2.2.2.2 (by omega) (by omega) j hl;rw[a0f ⟨o,p⟩,a0b (And.intro o p),ai,E4 k o p];simp only[ac,aC,L]
    cases c
    ·simp only[ah,a1q]
    ·simp only[ai,a1c]
   ·have B:¬(13<=t.1/\t.1<=18):=by omega
    have M:=fX leaf i.2.2.2.2.1 c j;have O:=fX leaf i.2.2.2.2.2 c j;have hj:vL k (gv d leaf a c e,gv d leaf b c e,())=some ((cE (gv d leaf a c e) (gv d leaf b c e),()),((),(),())):=by
     have s1:=bD v M;have s2:=bD v O;refine oN s1.1 s2.1 (λl1 l2=> ?_) (by omega) (by omega) (by omega);have P:=(bf M l1).1;have E2:=(bf O l2).1;exact⟨P.ints.trans E2.ints.symm,P.arrs.trans E2.arrs.symm⟩
    rw[a0d B,a0m B,ah,iha i.2.2.2.2.1 s (by omega) c e j f u.1];simp only[ac];rw[ihb i.2.2.2.2.2 A (by omega) c _ M f u.2,ihb i.2.2.2.2.2 A (by omega) c e j f u.2];simp only[ac,hj];by_cases n:(t.1==20)=c
    ·rw[a0f n,n,BEq.rfl,ai]
    ·have:((t.1==20)==c)=false:=by simpa using n
     rw[a0d n,this,ah]
def Ln (h:4194304<k) {d:aE} (b:aO d=true) (leaf:Int) {x:Ex} (i:x.Ok d) (c:x.kind=2) (j:x.size<=40) (a:Bool) {e:bc} (f:aV d e) (l:e.1=true):ET k (d,x.flat,a,e,leaf,())=some ((c9 d leaf x a e,bP (az d e leaf x),()),((),(),(),(),(),())):=by
 obtain⟨m,s,t⟩:=bf f l;have n:d.2.1.length<=3:=by
  simp only[aO,a0e,a0v]at b;exact b.1.2.1
 have o:=H3 h b leaf x i c j a e f k (by have:=x.depth_le;omega);have g:nI k (d,x.flat,a,e,leaf,())=some ((gv d leaf x a e,()),((),(),(),(),(),())):=o;have p:(az d e leaf x).2.2.1=aA (az d e leaf x):=rfl;have q:((az d e leaf x).1,(az d e leaf x).2.1,())=bu (az d e leaf x):=rfl;have r:(az d e leaf x).2.2.2.1=bP (az d e leaf x):=rfl;simp only[ET,jh h m (by omega) leaf i j,ac,ym,mS,kf k e (bD b f).1,g];rw[p,q,r];unfold c9 c9.hasV
 cases l:aA (az d e leaf x)
 ·simp only[a0u,ai,a0c,a3q,a1q,bm]
 ·cases hh:eu (bu (az d e leaf x)) (pD a)
  ·simp only[a0o,ah,a0u,ai,a0c,a1n,a1q,bm]
  ·simp only[a0o,ah,a0c,a1n,a1c]
abbrev cG:=Int×Int×Unit
def uS (e:cG):Bool:=decide (0<=e.1/\e.1<=29)&& decide (0<=e.2.1/\e.2.1<=4)
def aZ (t:List cG):Bool:=decide (t.length<=3)&& t.all uS
def yz {e:cG} (h:uS e=true):(0<=e.1/\e.1<=29)/\(0<=e.2.1/\e.2.1<=4):=by
 unfold uS at h;rw[a0e]at h;exact⟨a0w h.1,a0w h.2⟩
def oO (k:Nat) (m:4194304<k) (t:List cG):CF k (t,())=some ((aZ t,()),((),())):=by
 unfold CF aZ;simp only[ap];by_cases g:(t.length:Int)<=3
 ·have c:t.length<=3:=by omega
  rw[a0f g,a0b c,a1n];obtain⟨n,h,a⟩:=fU (b:=xB.l0 k) (λi=>(t,(((()),()),()),(t.length:Int),(i:Int),())) t (λe=> !uS e) (o:=((),(((()),()),()),())) (λG i j=>by
   have a:((i:Int)<(t.length:Int)):=by omega
   have l:(0:Int)<=(i:Int):=by omega
   simp only[xB.l0,MY,MX,dh,ap (p:=(i:Int)<(t.length:Int)),ap (p:=(0:Int)<=(i:Int)),a0f a,a0f l,a0i,a0a j,ac];rw[aB,uS]
   cases decide (0<=t[i].1/\t[i].1<=29)<;>cases decide (0<=t[i].2.1/\t[i].2.1<=4)<;>simp) (λG=>by
   have a:¬((t.length:Int)<(t.length:Int)):=by omega
   simp only[xB.l0,ap,a0d a]) (f:=k)
  unfold M0 MZ xB;have d:aH (xB.l0 k) k (t,(((()),()),()),(t.length:Int),0,())=some ((n,()),((),(((()),()),()),())):=h;simp only[d,ac,a,mN,a8j]
 ·have:decide (t.length<=3)=false:=by simp;omega
  rw[a0d g,this];rfl
def kL (k:Nat) (l:4194304<k) (t:List cG):F7 k (t,())=some ((aZ t,()),((),())):=by
 unfold F7 aZ;simp only[ap];by_cases d:(t.length:Int)>3
 ·have:decide (t.length<=3)=false:=by simp;omega
  rw[a0f d,this];rfl
 ·have a:t.length<=3:=by omega
  rw[a0d d,a0b a,a1n];have h:=iJ (b:=F7.l0 k) (λi=>(t,(i:Int),())) t (λe=> !uS e) (rf:=some ((false,()),((),()))) (r:=some ((true,()),((),()))) (λG i g=>by
   have c:((i:Int)<(t.length:Int)):=by omega
   have j:(0:Int)<=(i:Int):=by omega
   simp only[F7.l0,ap,a0f c,a0f j,a0i,a0a g,ac,jt];rw[aB,uS]
   cases decide (0<=t[i].1/\t[i].1<=29)<;>cases decide (0<=t[i].2.1/\t[i].2.1<=4)<;>simp) (λG=>by
   have c:¬((t.length:Int)<(t.length:Int)):=by omega
   simp only[F7.l0,ap,a0d c]) (f:=k)
  refine Eq.trans h ?_
  rw[mN]
  cases t.all uS<;>rfl
def jY (x y:cG):Int:=if x.1<y.1 then-1 else if x.1>y.1 then 1 else if x.2.1<y.2.1 then-1 else if x.2.1>y.2.1 then 1 else 0
def nJ:List cG->List cG->Int
 |x::a,y::b=>if jY x y=0 then nJ a b else jY x y
 |_,_=>0
def da (a b:List cG):Int:=if a.length<b.length then-1 else if a.length>b.length then 1 else nJ a b
def H4 (k:Nat) (x y:Int):Kc k (x,y,())=some ((if x<y then-1 else if x>y then 1 else 0,()),((),(),())):=by
 unfold Kc Kb;simp only[ac,a4c,ah,ap];by_cases a:x<y
 ·simp only[a0f a]
 ·by_cases b:x>y
  ·simp only[a0d a,a0f b]
  ·simp only[a0d a,a0d b]
def Dl (k:Nat) (x y:Int):Hq k (x,y,())=some ((if x<y then-1 else if x>y then 1 else 0,()),((),(),())):=by
 unfold Hq Ke;simp only[ac,a4c,ah,ap];by_cases a:x<y
 ·simp only[a0f a]
 ·by_cases b:x>y
  ·simp only[a0d a,a0f b]
  ·simp only[a0d a,a0d b]
def PB (k:Nat) (d:4194304<k) (x y:Int):sS k (([x,y]:List Int),())=some ((if x=0 then y else x,()),((),())):=by
 obtain⟨j,rfl⟩:∃j,k=j+3:=⟨k-3,by omega⟩;unfold sS;simp only[a0h,a0g];rw[aD];simp only[sS.l0,ap];rw[a0f (by decide),a0f (by decide)];by_cases a:x=0
 ·subst a
  simp only[a3l,a1r,ac,a4c,ah,a0f];rw[aj (by decide) (by decide),aD];simp only[sS.l0,ap];rw[a0f (by decide),a0f (by decide)];by_cases c:y=0
  ·subst c
   have e:([0,0]:List Int)[((0:Int)+1).toNat]?=some 0:=rfl;simp only[e,ac,a4c,ah];rw[aj (by decide) (by decide),aD];simp only[sS.l0,ap];rw[a0d (by decide)]
  ·have e:([0,y]:List Int)[((0:Int)+1).toNat]?=some y:=rfl
   have b:(y !=0)=true:=by simpa using c
   simp only[e,ac,b,ai]
 ·have b:(x !=0)=true:=by simpa using a
  simp only[a3l,a1r,ac,b,ai,a0d a]
def O4 (k:Nat) (c:4194304<k) (x y:cG):Kf k (x,y,())=some ((jY x y,()),((),(),())):=by
 unfold Kf;simp only[Dl,PB k c,ac];unfold jY;by_cases a:x.1<y.1
 ·simp[a]
 ·by_cases b:x.1>y.1
  ·simp[a,b]
  ·simp[a,b]
def tv {a b:List cG} (c:i<a.length) (d:i<b.length):nJ (a.drop i) (b.drop i)=if jY a[i] b[i]=0 then nJ (a.drop (i+1)) (b.drop (i+1))else jY a[i] b[i]:=by
 rw[a1d c,a1d d];rfl
def Fl (a b:List cG) (c:a.length<=i:=by omega):nJ (a.drop i) (b.drop i)=0:=by
 rw[a2c c];cases b.drop i<;>rfl
def yA (k:Nat) (t:4194304<k) (a b:List cG) (x:a.length<=1048576):∃n:Int,zU k (a,b,(()),())=some ((n,()),((),(),(()),()))/\(a.length=b.length->n=nJ a b):=by
 have l:∀(n i f:Nat),i+n=a.length->n<f->∃m:Int,aH (zU.l0 k) f (a,b,(()),a,(a.length:Int),(i:Int),())=some ((m,()),((),(),(()),()))/\(a.length=b.length->m=nJ (a.drop i) (b.drop i)):=by
  intro n
  induction n with
  |zero=>
   intro i f u v;obtain⟨f,rfl⟩:∃g,f=g+1:=⟨f-1,by omega⟩;have o:¬((i:Int)<(a.length:Int)):=by omega
   rw[aD];simp only[zU.l0,ap,a0d o];by_cases r:(a.length:Int)<(b.length:Int)
   ·exact⟨-1,by rw[a0f r],λh=>by omega⟩
   ·exact⟨0,by rw[a0d r],λh=>by rw[Fl a b]⟩
  |succ n ih=>
   intro i f u v;obtain⟨f,rfl⟩:∃g,f=g+1:=⟨f-1,by omega⟩;have c:i<a.length:=by omega
   have o:((i:Int)<(a.length:Int)):=by omega
   have w:(0:Int)<=(i:Int):=by omega
   rw[aD];simp only[zU.l0,ap,a0f o,a0f w,a0i,a0a c,ac];by_cases s:(i:Int)>=(b.length:Int)
   ·exact⟨1,by rw[a0f s],λh=>by omega⟩
   ·have d:i<b.length:=by omega
    rw[a0d s];simp only[a0a d,ac,O4 k t];rw[aB];by_cases j:jY a[i] b[i]=0
    ·have e:(jY a[i] b[i] !=0)=false:=by simpa using j
     obtain⟨m,p,q⟩:=ih (i+1) f (by omega) (by omega);refine⟨m,by rw[e,ah];exact p,λh=> ?_⟩;rw[tv c d,a0f j];exact q h
    ·have e:(jY a[i] b[i] !=0)=true:=by simpa using j
     exact⟨jY a[i] b[i],by rw[e,ai],λh=>by rw[tv c d,a0d j]⟩
 obtain⟨m,p,q⟩:=l a.length 0 k (by omega) (by omega);exact⟨m,p,λh=>q h⟩
def qx (k:Nat) (f:4194304<k) (a b:List cG) (h:a.length<=1048576):EB k (a,b,())=some ((da a b,()),((),(),())):=by
 unfold EB da;obtain⟨n,i,j⟩:=yA k f a b h;simp only[H4,i,PB k f,ac];by_cases e:a.length<b.length
 ·have c:(a.length:Int)<(b.length:Int):=by omega
  rw[a0f c,a0f e];rfl
 ·by_cases g:a.length>b.length
  ·have c:¬(a.length:Int)<(b.length:Int):=by omega
   have d:(a.length:Int)>(b.length:Int):=by omega
   rw[a0d c,a0f d,a0d e,a0f g];rfl
  ·have c:¬(a.length:Int)<(b.length:Int):=by omega
   have d:¬(a.length:Int)>(b.length:Int):=by omega
   rw[a0d c,a0d d,a0d e,a0d g,a0f rfl,j (by omega)]
def qy (k:Nat) (y:4194304<k) (a b:List cG) (l:aZ a=true) (m:aZ b=true):IQ k (a,b,())=some ((da a b,()),((),(),())):=by
 unfold aZ at l m;rw[a0e]at l m;have z:=a0w l.1;have s:=λi (h:i<a.length)=>yz (a1g.1 l.2 a[i] (a0n h))
 have t:=λi (h:i<b.length)=>yz (a1g.1 m.2 b[i] (a0n h))
 unfold IQ da;by_cases u:a.length=b.length
 ·have o:((a.length:Int) !=(b.length:Int))=false:=by simp[u]
  simp only[o,ah];rw[ifNegQ,ifNegQ];have p:∀(n i f:Nat),i+n=a.length->n<f->aH (IQ.l0 k) f (a,b,(i:Int),())=some ((nJ (a.drop i) (b.drop i),()),((),(),())):=by
   intro n
   induction n with
   |zero=>
    intro i f v w;obtain⟨f,rfl⟩:∃g,f=g+1:=⟨f-1,by omega⟩;have q:¬((i:Int)<(a.length:Int)):=by omega
    rw[aD,Fl a b];simp only[IQ.l0,ap,a0d q]
   |succ n ih=>
    intro i f v w;obtain⟨f,rfl⟩:∃g,f=g+1:=⟨f-1,by omega⟩;have c:i<a.length:=by omega
    have d:i<b.length:=by omega
    have q:((i:Int)<(a.length:Int)):=by omega
    have x:(0:Int)<=(i:Int):=by omega
    have A:=s i c;have B:=t i d;rw[aD,tv c d];simp only[IQ.l0,ap,a0f q,a0f x,a0i,a0a c,a0a d,ac];rw[aj (n:=10*a[i].1) (by omega) (by omega),aj (n:=10*b[i].1) (by omega) (by omega),aj (n:=10*a[i].1+a[i].2.1) (by omega) (by omega),aj (n:=10*b[i].1+b[i].2.1) (by omega) (by omega),aB];by_cases c1:10*a[i].1+a[i].2.1<10*b[i].1+b[i].2.1
    ·have e:jY a[i] b[i]= -1:=by
      unfold jY;by_cases j:a[i].1<b[i].1
      ·rw[a0f j]
      ·rw[a0d j,ifNegQ,ifPosQ]
     rw[a0f c1,e];rfl
    ·by_cases c2:10*a[i].1+a[i].2.1>10*b[i].1+b[i].2.1
     ·have e:jY a[i] b[i]=1:=by
       unfold jY;by_cases j:a[i].1>b[i].1
       ·rw[ifNegQ,a0f j]
       ·rw[ifNegQ,a0d j,ifNegQ,ifPosQ]
      rw[a0d c1,a0f c2,e];rfl
     ·have e:jY a[i] b[i]=0:=by
       unfold jY;rw[ifNegQ,ifNegQ,ifNegQ,ifNegQ]
      rw[a0d c1,a0d c2,a0f e];exact ih (i+1) f (by omega) (by omega)
  exact p a.length 0 k (by omega) (by omega)
 ·have o:((a.length:Int) !=(b.length:Int))=true:=by simp;omega
  simp only[o,ai,ap];by_cases r:a.length<b.length
  ·rw[a0f (show(a.length:Int)<(b.length:Int) by omega),a0f r]
  ·rw[a0d (show¬(a.length:Int)<(b.length:Int) by omega),a0d r,ifPosQ]
def eQ (d:aE) (t:List bc):Bool:=decide ((t.length:Int)=2^d.2.1.length)&& t.all (eP d)
def cP (t:List bc):Bool:=t.any λe=>e.1
def Fm (h:n<=3):wrap .i64 (1*2^(min n 64))=2^n:=by
 have:n=0\/n=1\/n=2\/n=3:=by omega
 rcases this with rfl|rfl|rfl|rfl<;>decide
def tw (k:Nat) (d:aE) (h:d.2.1.length<=3):vi k (d,())=some (((2:Int)^d.2.1.length,()),((),())):=by
 unfold vi;have w:wrap .u64 (d.2.1.length:Int)=(d.2.1.length:Int):=gW;have a:(0:Int)<=(d.2.1.length:Int):=by omega
 simp only[w,ap,a0f a,a0i,Fm h]
def Bx (k:Nat) (d:aE) (h:d.2.1.length<=3):pO k (d,())=some (((2:Int)^d.2.1.length,()),((),())):=by
 unfold pO;have a:(0:Int)<=(d.2.1.length:Int):=by omega
 simp only[ap,a0f a,a0i,Fm h]
def H5 {d:aE} (h:aO d=true):d.1.length<=5/\d.2.1.length<=3/\d.2.2.1.length<=2:=by
 unfold aO at h;rw[a0e]at h;exact a0w h.1
def yB (k:Nat) (j:4194304<k) (d:aE) (l:dG d) (a:aO d=true) (t:List bc) (s:t.length<=1048576) (n:∀e∈t,f6 e):sV k (d,t,())=some ((eQ d t,()),((),(),())):=by
 have o:=(H5 a).2.1;unfold sV eQ;simp only[gX k j d l,a,ac,a0o,ah,tw k d o,a0c];by_cases c:(t.length:Int)=2^d.2.1.length
 ·have b:((t.length:Int) !=2^d.2.1.length)=false:=by simpa using c
  rw[b,ah,a0b c,a1n];have h:=iJ (b:=sV.l0 k) (λi=>(t,(d.1,d.2.1,d.2.2.1,()),(i:Int),())) t (λe=> !eP d e) (rf:=some ((false,()),((),(),()))) (r:=some ((true,()),((),(),()))) (λG i m=>by
   have g:((i:Int)<(t.length:Int)):=by omega
   have p:(0:Int)<=(i:Int):=by omega
   have q:vl k ((d.1,d.2.1,d.2.2.1,()),t[i],())=some ((IU d t[i],()),((),(),())):=CU k j d l t[i] (n _ (a0n m));simp only[sV.l0,ap,a0f g,a0f p,a0i,a0a m,ac,q,IU,a,a1n];rw[aB]
   cases eP d t[i]<;>simp) (λG=>by
   have g:¬((t.length:Int)<(t.length:Int)):=by omega
   simp only[sV.l0,ap,a0d g]) (f:=k)
  refine Eq.trans h ?_
  rw[mN]
  cases t.all (eP d)<;>rfl
 ·have b:((t.length:Int) !=2^d.2.1.length)=true:=by simpa using c
  rw[b,ai,a0m c];rfl
def Dm (k:Nat) (h:4194304<k) (d:aE) (t:List bc) (p:t.length<=1048576) (j:∀e∈t,f6 e):Kh k (t,(d,()),())=some ((t.all (eP d),()),((),((),()),())):=by
 obtain⟨n,l,a⟩:=fU (b:=xH.l0 k) (λi=>(t,(((d,()),()),()),(t.length:Int),(i:Int),())) t (λe=> !eP d e) (o:=((),(((d,()),()),()),())) (λG i g=>by
  have a:((i:Int)<(t.length:Int)):=by omega
  have m:(0:Int)<=(i:Int):=by omega
  simp only[xH.l0,M4,Nc k h d t[i] (j _ (a0n g)),ap,a0f a,a0f m,a0i,a0a g,ac];rw[aB]
  cases eP d t[i]<;>simp) (λG=>by
  have a:¬((t.length:Int)<(t.length:Int)):=by omega
  simp only[xH.l0,ap,a0d a]) (f:=k)
 unfold Kh M5 xH;have c:aH (xH.l0 k) k (t,(((d,()),()),()),(t.length:Int),0,())=some ((n,()),((),(((d,()),()),()),())):=l;simp only[c,ac,a,mN,a8j]
def H6 (k:Nat) (c:4194304<k) (d:aE) (f:d.2.1.length<=3) (t:List bc) (g:t.length<=1048576) (h:∀e∈t,f6 e):Ki k (d,t,())=some ((eQ d t,()),((),(),())):=by
 unfold Ki eQ M1;simp only[ac,Bx k d f,Dm k c d t g h];by_cases a:(t.length:Int)=2^d.2.1.length
 ·have b:((t.length:Int)==2^d.2.1.length)=true:=by simpa using a
  rw[b,ai,a0b a,a1n]
 ·have b:((t.length:Int)==2^d.2.1.length)=false:=by simpa using a
  rw[b,ah,a0m a];rfl
def By (k:Nat) (g:4194304<k) (t:List bc) (j:t.length<=1048576):IP k (t,())=some ((cP t,()),((),())):=by
 have h:=iJ (b:=IP.l0 k) (λi=>(t,(i:Int),())) t (λe=>e.1) (rf:=some ((true,()),((),()))) (r:=some ((false,()),((),()))) (λG i c=>by
  have a:((i:Int)<(t.length:Int)):=by omega
  have d:(0:Int)<=(i:Int):=by omega
  simp only[IP.l0,ap,a0f a,a0f d,a0i,a0a c,ac];rw[aB]
  cases t[i].1<;>simp) (λG=>by
  have a:¬((t.length:Int)<(t.length:Int)):=by omega
  simp only[IP.l0,ap,a0d a]) (f:=k)
 unfold IP;refine Eq.trans h ?_
 unfold cP
 cases t.any λe=>e.1<;>rfl
def kM (st:List Int) (a b:List bq):List bq:=List.zipWith (λx y=>jX x y st) a b
def jK (st:List Int) (a b:bc):bc:=cond a.1 (cond b.1 (true,kM st a.2.1 b.2.1,kM st a.2.2.1 b.2.2.1,()) a) b
def Lo:Option (List Int)->bc->bc->bc
 |none=>cE
 |some st=>jK st
def iM (w:Option (List Int)) (a b:List bc):List bc:=List.zipWith (Lo w) a b
def An (st:List Int) {a b:bc} (n:f6 a) (o:f6 b) (g:a.1=true->b.1=true->a.2.1.length=b.2.1.length/\a.2.2.1.length=b.2.2.1.length) (h:a.2.1.length+a.2.2.1.length<=1000) (c:b.2.1.length+b.2.2.1.length<=1000) (p:1000<k):vj k (a,b,st,())=some ((jK st a b,()),((),(),(),())):=by
 have q:=oN n o g h c p;simp only[vj,q,ac,jK]
 cases h1:a.1
 ·simp only[a0u,ai,a0c,cE,h1,a1q]
 ·cases h2:b.1
  ·simp only[a0o,a0u,ah,ai,a0c,cE,h1,h2,a1q,a1c]
   rw[<-h1]
  ·obtain⟨l1,l2⟩:=g h1 h2
   simp only[a0o,ah,mW k h,mW k c,ac,a1c,a0c];have e:(a.2.1++a.2.2.1).length=(b.2.1++b.2.2.1).length:=by simp;omega
   have r:(a.2.1++a.2.2.1).length<=1000:=by simp;omega
   have j:kM st (a.2.1++a.2.2.1) (b.2.1++b.2.2.1)=kM st a.2.1 b.2.1++kM st a.2.2.1 b.2.2.1:=by
    unfold kM;exact a6y l1
   refine bg (b:=vj.l0 k) (λi=>(st,(true,a.2.1,a.2.2.1,()),(false,[],[],()),a.2.1++a.2.2.1,b.2.1++b.2.2.1,kM st ((a.2.1++a.2.2.1).take i) ((b.2.1++b.2.2.1).take i),(i:Int),())) (a.2.1++a.2.2.1).length (λG i l=> ?_) (λG=> ?_) (by omega)
   ·have d:i<(b.2.1++b.2.2.1).length:=by omega
    have m:(kM st ((a.2.1++a.2.2.1).take i) ((b.2.1++b.2.2.1).take i)).length<=1000:=by unfold kM;rw[a2l,a1h];omega
    simp only[vj.l0];rw[a0b (show(i:Int)<((a.2.1++a.2.2.1).length:Int) by omega),a0b (show 0<=(i:Int)/\(i:Int)<((a.2.1++a.2.2.1).length:Int) by omega),a0b (show 0<=(i:Int)/\(i:Int)<((b.2.1++b.2.2.1).length:Int) by omega)];simp only[ai,a0i,a0a l,a0a d,ac,CW _ _ st (show 100<k by omega)];rw[a0b (by simp only[a0h,a0g,ag];omega),ai,aB (i:=i)]
    congr 1
    unfold kM;rw[ma (λx y=>jX x y st) _ _ l d]
   ·simp only[vj.l0]
    have f:(kM st a.2.1 b.2.1).length=a.2.1.length:=by unfold kM;rw[a2l];omega
    rw[a0m (show¬((a.2.1++a.2.2.1).length:Int)<((a.2.1++a.2.2.1).length:Int) by omega),ah,a1i,e,a1i,j,Fh k _ (by rw[a0j];omega) (by rw[<-j];unfold kM;rw[a2l];omega)];simp only[ac];rw[<-f,a6r,a8p]
structure nD (d:aE) (t:List bc):Prop where
 n:t.length=2^d.2.1.length
 e:∀x∈t,aV d x
def eJ {d:aE} (a:aO d=true):d.1.length<=5/\d.2.1.length<=3/\d.2.2.1.length<=2:=by
 simp only[aO,a0e,a0v]at a;exact a.1
def fY {d:aE} (a:aO d=true) {t:List bc} (h:nD d t):t.length<=8:=by
 rw[h.n];have:=(eJ a).2.1;have b:d.2.1.length=0\/d.2.1.length=1\/d.2.1.length=2\/d.2.1.length=3:=by omega
 rcases b with h|h|h|h<;>rw[h]<;>decide
def tz {d:aE} {a b:bc} (e:aV d a) (f:aV d b):a.1=true->b.1=true->a.2.1.length=b.2.1.length/\a.2.2.1.length=b.2.2.1.length:=by
 intro g h;have c:=(bf e g).1;have E2:=(bf f h).1;exact⟨c.ints.trans E2.ints.symm,c.arrs.trans E2.arrs.symm⟩
def Fo {d:aE} {a:bc} (b:aV d a):(∀x∈a.2.1,bo x=true)/\∀x∈a.2.2.1,bo x=true:=by
 rcases b with h|h
 ·exact h.2.2
 ·rw[h];simp[bm]
def mZ (g:1000<k) {d:aE} (f:aO d=true) {a b:bc} (c:aV d a) (e:aV d b):EJ k (a,b,(),())=some ((cE a b,()),((),(),(),())):=by
 have h:=bD f c;have i:=bD f e;exact uQ h.1 i.1 (tz c e) (by omega) g (Fo c) (Fo e)
def Dn (g:1000<k) {d:aE} (c:aO d=true) {a b:bc} (e:aV d a) (f:aV d b):vL k (a,b,())=some ((cE a b,()),((),(),())):=by
 have h:=bD c e;have i:=bD c f;exact oN h.1 i.1 (tz e f) (by omega) (by omega) g
def Ao (g:1000<k) (st:List Int) {d:aE} (c:aO d=true) {a b:bc} (e:aV d a) (f:aV d b):vj k (a,b,st,())=some ((jK st a b,()),((),(),(),())):=by
 have h:=bD c e;have i:=bD c f;exact An st h.1 i.1 (tz e f) (by omega) (by omega) g
def Fp (m:1000<k) {d:aE} (h:aO d=true) {a b:List bc} (f:nD d a) (j:nD d b):xP k (a,b,(),())=some ((iM none a b,()),((),(),(),())):=by
 have l1:=fY h f;have o:a.length=b.length:=by rw[f.n,j.n]
 simp only[xP];refine bg (b:=xP.l0 k) (λi=>(b,(),iM none (a.take i) (b.take i),a,(a.length:Int),(i:Int),())) a.length (λG i g=> ?_) (λG=> ?_) (by omega)
 ·have c:i<b.length:=by omega
  have l:(iM none (a.take i) (b.take i)).length<=8:=by unfold iM;rw[a2l,a1h];omega
  have p:=mZ m h (f.e _ (a0n g)) (j.e _ (a0n c));simp only[xP.l0];rw[a0b (show(i:Int)<(a.length:Int) by omega),a0b (show(0:Int)<=(i:Int) by omega)];simp only[ai,a0i,a0a g,a0a c,ac,p];rw[a0b (by simp only[a0h,a0g,ag];omega),ai,aB (i:=i)];unfold iM;rw[ma (Lo none) a b g c];rfl
 ·simp only[xP.l0]
  rw[a0m (show¬(a.length:Int)<(a.length:Int) by omega),ah,a1i,o,a1i]
def Fq (m:1000<k) {d:aE} (h:aO d=true) {a b:List bc} (f:nD d a) (j:nD d b):Gb k (a,b,())=some ((iM none a b,()),((),(),())):=by
 have l1:=fY h f;have o:a.length=b.length:=by rw[f.n,j.n]
 simp only[Gb];refine bg (b:=Gb.l0 k) (λi=>(a,b,iM none (a.take i) (b.take i),(i:Int),())) a.length (λG i g=> ?_) (λG=> ?_) (by omega)
 ·have c:i<b.length:=by omega
  have l:(iM none (a.take i) (b.take i)).length<=8:=by unfold iM;rw[a2l,a1h];omega
  have p:=Dn m h (f.e _ (a0n g)) (j.e _ (a0n c));simp only[Gb.l0];rw[a0b (show(i:Int)<(a.length:Int) by omega),a0b (show(0:Int)<=(i:Int) by omega)];simp only[ai,a0i,a0a g,a0a c,ac,p];rw[a0b (by simp only[a0h,a0g,ag];omega),ai,aB (i:=i)];unfold iM;rw[ma (Lo none) a b g c];rfl
 ·simp only[Gb.l0]
  rw[a0m (show¬(a.length:Int)<(a.length:Int) by omega),ah,a1i,o,a1i]
def Fs (m:1000<k) (st:List Int) {d:aE} (h:aO d=true) {a b:List bc} (f:nD d a) (j:nD d b):vk k (a,b,st,())=some ((iM (some st) a b,()),((),(),(),())):=by
 have l1:=fY h f;have o:a.length=b.length:=by rw[f.n,j.n]
 simp only[vk];refine bg (b:=vk.l0 k) (λi=>(a,b,st,iM (some st) (a.take i) (b.take i),(i:Int),())) a.length (λG i g=> ?_) (λG=> ?_) (by omega)
 ·have c:i<b.length:=by omega
  have l:(iM (some st) (a.take i) (b.take i)).length<=8:=by unfold iM;rw[a2l,a1h];omega
  have p:=Ao m st h (f.e _ (a0n g)) (j.e _ (a0n c));simp only[vk.l0];rw[a0b (show(i:Int)<(a.length:Int) by omega),a0b (show(0:Int)<=(i:Int) by omega)];simp only[ai,a0i,a0a g,a0a c,ac,p];rw[a0b (by simp only[a0h,a0g,ag];omega),ai,aB (i:=i)];unfold iM;rw[ma (Lo (some st)) a b g c];rfl
 ·simp only[vk.l0]
  rw[a0m (show¬(a.length:Int)<(a.length:Int) by omega),ah,a1i,o,a1i]
def Bz {P:Int->Prop} {f:Int->Int->Int} (l:List Int) (a:∀m x,P m->x∈l->P (f m x)):∀m,P m->P (l.foldl f m):=by
 induction l with
 |nil=>exactλm h=>h
 |cons y l ih=>exactλm h=>ih (λm x b c=>a m x b (by simp[c])) _ (a m y h (by simp))
def uT (l:List Int) (b:Int) (a:ax b):ax (qt l b)/\qt l b<=b:=by
 refine Bz (P:=λm=>ax m/\m<=b) l (λm x c _=> ?_) _ ⟨by unfold ax;omega,a.1⟩;obtain⟨⟨a1,d⟩,e⟩:=c;obtain⟨f,g⟩:=a;unfold ax
 repeat (split<;>try omega)
def uU (l:List Int) (b:Int) (a:ax b):ax (oH l b)/\b<=oH l b:=by
 refine Bz (P:=λm=>ax m/\b<=m) l (λm x c _=> ?_) _ ⟨by unfold ax;omega,a.2⟩;obtain⟨⟨a1,d⟩,e⟩:=c;obtain⟨f,g⟩:=a;unfold ax
 repeat (split<;>try omega)
def yC (e:st.length<=100) {a b:bq} (c:bi a) (d:bi b):bi (jX a b st):=by
 unfold jX
 cases hc:(bJ a b&& decide (st.length<=100))
 ·exact cN
 ·refine⟨?_,?_⟩
  ·simp only[a1c]
   split
   ·exact(uT st _ d.1).1
   ·exact c.1
  ·simp only[a1c]
   split
   ·exact(uU st _ d.2).1
   ·exact c.2
def Nx (c:st.length<=100) {a b:bq} (d:bo a=true) (e:bo b=true):jX a b st=(if b.1<a.1 then qt st b.1 else a.1,if b.2.1>a.2.1 then oH st b.2.1 else a.2.1,()):=by
 unfold jX bJ;rw[d,e,a0b c];rfl
def Ft (c:st.length<=100) {a b:bq} (d:bi b) (e:bo a=true) (f:bo b=true):bo (jX a b st)=true:=by
 rw[Nx c e f];have g:=(uT st _ d.1).2;have h:=(uU st _ d.2).2;simp only[bo,a0v]at e f⊢;split<;>split<;>omega
def yD {P Q:bq->Prop} {f:bq->bq->bq} (c:∀x y,Q x->Q y->P (f x y)):(a b:List bq)->(∀x∈a,Q x)->(∀x∈b,Q x)->∀x∈List.zipWith f a b,P x
 |[],b,_,_=>by simp
 |x::a,[],_,_=>by simp
 |x::a,y::b,ha,hb=>by
  intro z hz;simp only[a3p,a1j]at hz;rcases hz with hz|hz
  ·rw[hz];exact c x y (ha x (by simp)) (hb y (by simp))
  ·exact yD c a b (λz hz=>ha z (by simp[hz])) (λz hz=>hb z (by simp[hz])) z hz
def Ap {d:aE} (e:st.length<=100) {a b:bc} (k:aV d a) (l:aV d b):aV d (jK st a b):=by
 unfold jK;by_cases i:a.1=true
 ·by_cases j:b.1=true
  ·rw[cT i,cT j]
   obtain⟨g,m,n⟩:=bf k i;obtain⟨h,o,p⟩:=bf l j;have l1:=g.ints;have l2:=h.ints;have q:=g.arrs;have r:=h.arrs;exact Or.inl ⟨rfl,⟨by simp only[kM,a2l];omega,by simp only[kM,a2l];omega,
    mX (λx y c f=>yC e c f) _ _ g.fi h.fi,mX (λx y c f=>yC e c f) _ _ g.fa h.fa⟩,
    yD (Q:=λx=>bi x/\bo x=true) (λx y c f=>Ft e f.1 c.2 f.2) _ _ (λx c=>⟨g.fi x c,m x c⟩) (λx c=>⟨h.fi x c,o x c⟩),
    yD (Q:=λx=>bi x/\bo x=true) (λx y c f=>Ft e f.1 c.2 f.2) _ _ (λx c=>⟨g.fa x c,n x c⟩) (λx c=>⟨h.fa x c,p x c⟩)⟩
  ·rw[cT i,cF (by simpa using j)];exact k
 ·rw[cF (by simpa using i)];exact l
def Q1 (w:Option (List Int)):Prop:=∀st,w=some st->st.length<=100
def Lp {d:aE} {w:Option (List Int)} (f:Q1 w) {a b:bc} (c:aV d a) (e:aV d b):aV d (Lo w a b):=by
 cases w with
 |none=>exact tp c e
 |some st=>exact Ap (f st rfl) c e
def Fu {P:bc->Prop} {f:bc->bc->bc} (c:∀x y,P x->P y->P (f x y)):(a b:List bc)->(∀x∈a,P x)->(∀x∈b,P x)->∀x∈List.zipWith f a b,P x
 |[],b,_,_=>by simp
 |x::a,[],_,_=>by simp
 |x::a,y::b,ha,hb=>by
  intro z hz;simp only[a3p,a1j]at hz;rcases hz with hz|hz
  ·rw[hz];exact c x y (ha x (by simp)) (hb y (by simp))
  ·exact Fu c a b (λz hz=>ha z (by simp[hz])) (λz hz=>hb z (by simp[hz])) z hz
def Lq {d:aE} {w:Option (List Int)} (g:Q1 w) {a b:List bc} (c:nD d a) (f:nD d b):nD d (iM w a b):=⟨by unfold iM;rw[a2l,c.n,f.n,Nat.min_self],Fu (λx y h i=>Lp g h i) _ _ c.e f.e⟩
abbrev aI:=List cG×List bc×Unit
def gc (d:aE) (p:aI):Bool:=aZ p.1&& (eQ d p.2.1&& cP p.2.1)
def rN (a:Option (List cG)) (t:List cG):Bool:=
 match a with
 |none=>true
 |some s=> !decide (da s t>=0)
def lw:Option (List cG)->List aI->Bool
 |_,[]=>true
 |prev,p::r=>rN prev p.1&& lw (some p.1) r
def BA (d:aE):Option (List cG)->List aI->Bool
 |_,[]=>true
 |prev,p::r=>(aZ p.1&& (rN prev p.1&& (eQ d p.2.1&& cP p.2.1)))&& BA d (some p.1) r
def dn (d:aE) (l:List aI):Bool:=decide (l.length<=100)&& (l.all (gc d)&& lw none l)
def Fv (d:aE):∀(l:List aI) (a:Option (List cG)),BA d a l=(l.all (gc d)&& lw a l)
 |[],_=>rfl
 |p::r,a=>by
  simp only[BA,lw,a5q,Fv d r,gc]
  cases aZ p.1<;>cases rN a p.1<;>cases eQ d p.2.1<;>cases cP p.2.1<;>cases r.all (λp=>aZ p.1&& (eQ d p.2.1&& cP p.2.1))<;>simp[gc]
structure jk (l:List aI):Prop where
 n:l.length<=1048576
 t:∀p∈l,p.1.length<=1048576
 m:∀p∈l,p.2.1.length<=1048576
 e:∀p∈l,∀e∈p.2.1,f6 e
def yE (k:Nat) (j:4194304<k) (d:aE) (y:dG d) (q:aO d=true) (l:List aI) (o:jk l):∀(n i f:Nat) (a:Option (List cG)),i+n=l.length->n<f->(i=0->a=none)->(∀(h:0<i) (z:i-1<l.length),a=some l[i-1].1/\aZ l[i-1].1=true)->aH (vm.l0 k) f (l,(d.1,d.2.1,d.2.2.1,()),(i:Int),())=some ((BA d a (l.drop i),()),((),(),())):=by
 have H:=o.n;intro n
 induction n with
 |zero=>
  intro i f a A B w x;obtain⟨f,rfl⟩:∃g,f=g+1:=⟨f-1,by omega⟩;have r:¬((i:Int)<(l.length:Int)):=by omega
  rw[aD,a2c (by omega)];simp only[vm.l0,ap (p:=(i:Int)<(l.length:Int)),a0d r,BA]
 |succ n ih=>
  intro i f a A B w x;obtain⟨f,rfl⟩:∃g,f=g+1:=⟨f-1,by omega⟩;have b:i<l.length:=by omega
  have r:((i:Int)<(l.length:Int)):=by omega
  have C:(0:Int)<=(i:Int):=by omega
  have s:=a0n b;have D:sV k ((d.1,d.2.1,d.2.2.1,()),l[i].2.1,())=some ((eQ d l[i].2.1,()),((),(),())):=yB k j d y q l[i].2.1 (o.m _ s) (o.e _ s);rw[aD,a1d b];simp only[vm.l0,ap (p:=(i:Int)<(l.length:Int)),ap (p:=(0:Int)<=(i:Int)),a0f r,a0f C,a0i,a0a b,ac,kL k j,D,By k j l[i].2.1 (o.m _ s),BA]
  cases htok:aZ l[i].1 with
  |false=>simp
  |true=>
   have next:=ih (i+1) f (some l[i].1) (by omega) (by omega) (λh=>by omega) (λh z=>⟨by simp,by simpa using htok⟩);simp only[a0o,ah,a1n];by_cases E:i=0
   ·have c:¬((i:Int)>0):=by omega
    have t:=w E;rw[aB];simp only[ap (p:=(i:Int)>0),a0d c,t,rN,a1n]
    cases eQ d l[i].2.1<;>cases cP l[i].2.1<;>simp[next]
    all_goals exact next
   ·have c:((i:Int)>0):=by omega
    obtain⟨t,u⟩:=x (by omega) (by omega);have F:wrap .i64 ((i:Int)-1)=((i-1:Nat):Int):=by rw[aj (by omega) (by omega)];omega
    have G:(0:Int)<=((i-1:Nat):Int):=by omega
    have v:i-1<l.length:=by omega
    rw[aB];simp only[ap (p:=(i:Int)>0),a0f c,F,ap (p:=(0:Int)<=((i-1:Nat):Int)),a0f G,a0i,a0a v,ac,qy k j l[i-1].1 l[i].1 u htok,t,rN]
    cases decide (da l[i-1].1 l[i].1>=0)<;>cases eQ d l[i].2.1<;>cases cP l[i].2.1<;>simp[next]
    all_goals exact next
def yF (k:Nat) (c:4194304<k) (d:aE) (e:dG d) (a:aO d=true) (l:List aI) (f:jk l):vm k (d,l,())=some ((dn d l,()),((),(),())):=by
 have i:=f.n;unfold vm dn;simp only[gX k c d e,a,ac,a0o,ah,a0c,ap];by_cases g:(l.length:Int)>100
 ·have:decide (l.length<=100)=false:=by simp;omega
  rw[a0f g,this];rfl
 ·have b:l.length<=100:=by omega
  rw[a0d g,a0b b,a1n,<-Fv];exact yE k c d e a l f l.length 0 k none (by omega) (by omega) (λ_=>rfl) (λh=>by omega)
def O5 (k:Nat) (j:4194304<k) (t:List bc) (l:t.length<=1048576):Kj k (t,(()),())=some ((cP t,()),((),(()),())):=by
 obtain⟨n,d,a⟩:=fU (b:=xJ.l0 k) (λi=>(t,(()),(t.length:Int),(i:Int),())) t (λe=>e.1) (o:=((),(()),())) (λG i g=>by
  have a:((i:Int)<(t.length:Int)):=by omega
  have h:(0:Int)<=(i:Int):=by omega
  simp only[xJ.l0,M6,ap,a0f a,a0f h,a0i,a0a g,ac];rw[aB]
  cases t[i].1<;>simp) (λG=>by
  have a:¬((t.length:Int)<(t.length:Int)):=by omega
  simp only[xJ.l0,ap,a0d a]) (f:=k)
 unfold Kj xJ;have c:aH (xJ.l0 k) k (t,(()),(t.length:Int),0,())=some ((n,()),((),(()),())):=d;simp only[c,ac,a];rfl
def Lr (k:Nat) (a:4194304<k) (d:aE) (c:d.2.1.length<=3) (p:aI) (b:p.2.1.length<=1048576) (f:∀e∈p.2.1,f6 e):Kk k (d,p,())=some ((gc d p,()),((),(),())):=by
 unfold Kk gc;simp only[oO k a,H6 k a d c p.2.1 b f,O5 k a p.2.1 b,ac]
 cases aZ p.1<;>cases eQ d p.2.1<;>simp
def pU (k:Nat) (q:4194304<k) (d:aE) (r:d.2.1.length<=3) (l:List aI) (c:jk l):ED k (l,(d,()),())=some ((l.all (gc d),()),((),((),()),())):=by
 have u:=c.n;obtain⟨n,s,a⟩:=fU (b:=xK.l0 k) (λi=>(l,(((d,()),()),()),(l.length:Int),(i:Int),())) l (λp=> !gc d p) (o:=((),(((d,()),()),()),())) (λG i h=>by
  have a:((i:Int)<(l.length:Int)):=by omega
  have t:(0:Int)<=(i:Int):=by omega
  have j:=a0n h;simp only[xK.l0,M7,Lr k q d r l[i] (c.m _ j) (c.e _ j),ap,a0f a,a0f t,a0i,a0a h,ac];rw[aB]
  cases gc d l[i]<;>simp) (λG=>by
  have a:¬((l.length:Int)<(l.length:Int)):=by omega
  simp only[xK.l0,ap,a0d a]) (f:=k)
 unfold ED M8 xK;have g:aH (xK.l0 k) k (l,(((d,()),()),()),(l.length:Int),0,())=some ((n,()),((),(((d,()),()),()),())):=s;simp only[g,ac,a,mN,a8j]
def yG (k:Nat) (m:4194304<k) (d:aE) (r:d.2.1.length<=3) (l:List aI) (c:jk l):∀(n i f:Nat) (o:1<=i),(i<=l.length->∀(b:i-1<l.length),i+n=l.length->n<f->aH (Hs.l0 k) f (l,(d.1,d.2.1,d.2.2.1,()),(i:Int),())=some ((lw (some l[i-1].1) (l.drop i)&& (decide (l.length<=100)&& l.all (gc d)),()),((),(),()))):=by
 have y:=c.n;intro n
 induction n with
 |zero=>
  intro i f o e b s h;obtain⟨f,rfl⟩:∃g,f=g+1:=⟨f-1,by omega⟩;have j:¬((i:Int)<(l.length:Int)):=by omega
  have u:ED k (l,((d.1,d.2.1,d.2.2.1,()),()),())=some ((l.all (gc d),()),((),((),()),())):=pU k m d r l c;rw[aD,a2c (by omega)];simp only[Hs.l0,ap,a0d j,lw,a1n,u,ac];by_cases q:l.length<=100
  ·rw[ifPosQ,a0b q,a1n]
  ·rw[ifNegQ,a0m q];rfl
 |succ n ih=>
  intro i f o e b s h;obtain⟨f,rfl⟩:∃g,f=g+1:=⟨f-1,by omega⟩;have a:i<l.length:=by omega
  have j:((i:Int)<(l.length:Int)):=by omega
  have v:(0:Int)<=(i:Int):=by omega
  have w:wrap .i64 ((i:Int)-1)=((i-1:Nat):Int):=by rw[aj (by omega) (by omega)];omega
  have x:(0:Int)<=((i-1:Nat):Int):=by omega
  rw[aD,a1d a];simp only[Hs.l0,ap (p:=(i:Int)<(l.length:Int)),ap (p:=(0:Int)<=(i:Int)),a0f j,a0f v,w,ap (p:=(0:Int)<=((i-1:Nat):Int)),a0f x,a0i,a0a a,a0a b,ac,qx k m l[i-1].1 l[i].1 (c.t _ (a0n b)),lw,rN];rw[aB]
  cases decide (da l[i-1].1 l[i].1>=0)with
  |true=>simp
  |false=>
   have:=ih (i+1) f (by omega) (by omega) (by omega) (by omega) (by omega);simp only[Nat.add_sub_cancel]at this;simpa using this
def uV (k:Nat) (b:4194304<k) (d:aE) (c:d.2.1.length<=3) (l:List aI) (a:jk l):Hs k (d,l,())=some ((dn d l,()),((),(),())):=by
 have f:=a.n;unfold Hs dn
 cases l with
 |nil=>
  obtain⟨j,rfl⟩:∃j,k=j+1:=⟨k-1,by omega⟩;have g:ED (j+1) (([]:List aI),((d.1,d.2.1,d.2.2.1,()),()),())=some ((([]:List aI).all (gc d),()),((),((),()),())):=pU (j+1) b d c [] a;simp only;rw[aD];simp only[Hs.l0,ap,a0g];rw[a0d (by decide),a0f (by decide),g];simp[lw]
 |cons p r=>
  have h:=yG k b d c (p::r) a r.length 1 k (a1m _) (by simp) (by simp) (by simp;omega) (by simp at f;omega);refine Eq.trans h ?_
  simp only[lw,rN,a1n];have e:(p::r)[1-1].1=p.1:=rfl;have i:(p::r).drop 1=r:=rfl;rw[e,i]
  cases lw (some p.1) r<;>simp
def m0 (x y:cG):(jY x y= -1/\(x.1<y.1\/(x.1=y.1/\x.2.1<y.2.1)))\/(jY x y=1/\(y.1<x.1\/(x.1=y.1/\y.2.1<x.2.1)))\/(jY x y=0/\x.1=y.1/\x.2.1=y.2.1):=by
 unfold jY;by_cases a:x.1<y.1
 ·rw[a0f a];exact .inl ⟨rfl,.inl a⟩
 ·by_cases b:x.1>y.1
  ·rw[a0d a,a0f b];exact .inr (.inl ⟨rfl,.inl b⟩)
  ·by_cases c:x.2.1<y.2.1
   ·rw[a0d a,a0d b,a0f c];exact .inl ⟨rfl,.inr ⟨by omega,c⟩⟩
   ·by_cases d:x.2.1>y.2.1
    ·rw[a0d a,a0d b,a0d c,a0f d];exact .inr (.inl ⟨rfl,.inr ⟨by omega,d⟩⟩)
    ·rw[a0d a,a0d b,a0d c,a0d d];exact .inr (.inr ⟨rfl,by omega,by omega⟩)
def I3:∀(a b c:List cG),a.length=b.length->b.length=c.length->nJ a b<0->nJ b c<=0->nJ a c<0
 |[],[],_,_,_,h,_=>by simp[nJ]at h
 |x::a,y::b,z::c,h1,h2,h,h'=>by
  have ih:=I3 a b c (by simpa using h1) (by simpa using h2);simp only[nJ]at h h'⊢;rcases m0 x y with⟨d,f1⟩|⟨d,f1⟩|⟨d,f1⟩<;>rcases m0 y z with⟨e,f2⟩|⟨e,f2⟩|⟨e,f2⟩<;>rcases m0 x z with⟨f,g⟩|⟨f,g⟩|⟨f,g⟩<;>simp only[d,e,f]at h h'⊢<;>simp at h h'⊢<;>first|omega|exact ih h h'
def rO {a b c:List cG} (h:da a b<0) (d:da b c<=0:=by omega):da a c<0:=by
 unfold da at h d⊢;by_cases f:a.length<b.length
 ·by_cases e:c.length<b.length
  ·rw[ifNegQ,ifPosQ]at d;omega
  ·rw[ifPosQ];decide
 ·by_cases e:a.length>b.length
  ·rw[a0d f,a0f e]at h;omega
  ·rw[a0d f,a0d e]at h
   by_cases g:b.length<c.length
   ·rw[ifPosQ];decide
   ·by_cases i:b.length>c.length
    ·rw[a0d g,a0f i]at d;omega
    ·rw[a0d g,a0d i]at d
     rw[ifNegQ,ifNegQ];exact I3 a b c (by omega) (by omega) h d
def Fw:∀(l:List aI) (a:Option (List cG)),lw a l=true->(∀s,a=some s->∀p∈l,da s p.1<0)/\l.Pairwise λp q=>da p.1 q.1<0
 |[],_,_=>⟨λ_ _ p d=>by simp at d,.nil⟩
 |p::r,a,h=>by
  simp only[lw,a0e]at h;obtain⟨c,e⟩:=Fw r (some p.1) h.2;refine⟨λs f q hq=> ?_,a4i.2 ⟨λq hq=>c p.1 rfl q hq,e⟩⟩;subst f;have b:da s p.1<0:=by
   have:=h.1;simp only[rN,a2o,a6l]at this;omega
  rcases a1j.1 hq with rfl|hq
  ·exact b
  ·exact rO b (by have:=c p.1 rfl q hq;omega)
abbrev bA:=Int×Int×List cL×List cL×Int×Int×Unit
def d9 (n:Int):Bool:=n==5||(n==6||(n==9||n==10))
def eY (n:Int):Bool:=n==9||n==10
def fu (st:List Int) (a:Int):Option (List Int):=
 if d9 a=true then some (a::st)else
 if a=7 then(match st with|t::r=>if t=5\/t=6 then some (7::r)else none|[]=>none)else
 if a=8 then(match st with|_::r=>some r|[]=>none)else some st
def dU:List Int->List Int->Option (List Int)
 |st,[]=>some st
 |st,n::r=>(fu st n).bind λs=>dU s r
def kN:Option (List Int)->Bool
 |some []=>true
 |_=>false
def mc (l:List bA):Bool:=kN (dU [] (l.map (·.1)))
def QM:bA:=(0,0,[],[],0,0,())
def db (l:List bA) (x:Int):Int:=(l.getD x.toNat QM).1
def qz (k:Nat) (n:Int):CC k (n,())=some ((eY n,()),((),())):=by
 unfold CC eY;simp only
 cases (n==9)<;>simp
def m4 (k:Nat) (n:Int):He k (n,())=some ((d9 n,()),((),())):=by
 unfold He d9;simp only[qz,ac,eY]
 cases (n==5)<;>cases (n==6)<;>simp
def md:fu [] 7=none:=by decide
def me:fu [] 8=none:=by decide
def oP (h:t=5\/t=6):fu (t::r) 7=some (7::r):=by
 simp[fu,d9,h]
def oQ (h:¬(t=5\/t=6)):fu (t::r) 7=none:=by
 unfold fu;rw[a0d (by decide),a0f rfl];simp only[a0d h]
def oR:fu (t::r) 8=some r:=by simp[fu,d9]
def fF (l:List bA) (a:0<=x) (h:x.toNat<l.length):db l x=l[x.toNat].1:=by
 simp[db,List.getD,a0a h]
def vq (k:Nat) (l:List bA) (hl:l.length<=30):∀(n i f:Nat) (a op:List Int),i+n=l.length->n<f->a.length=i->op.length<=i->(∀x∈op,0<=x/\x<(i:Int))->∃o m,aH (vJ.l0 k) f (l,a,op,(i:Int),())=some ((o,m,()),((),()))/\decide (m>(l.length:Int))=kN (dU ((op.map (db l)).reverse) ((l.drop i).map (·.1))):=by
 intro n
 induction n with
 |zero=>
  intro i f a op U V W C B;obtain⟨f,rfl⟩:∃g,f=g+1:=⟨f-1,by omega⟩;have D:¬((i:Int)<(l.length:Int)):=by omega
  rw[aD,a2c (by omega)];simp only[vJ.l0,ap,a0d D,a4a,dU];by_cases b:(op.length:Int)>0
  ·refine⟨[],(l.length:Int),by rw[a0f b],?_⟩
   cases op with
   |nil=>simp at b
   |cons x r=>
    have:¬((l.length:Int)>(l.length:Int)):=by omega
    rw[a0m this]
    cases hr:((x::r).map (db l)).reverse with
    |nil=>simp at hr
    |cons y z=>rfl
  ·have:op=[]:=by cases op with|nil=>rfl|cons x r=>simp at b
   subst this;refine⟨a,wrap .i64 ((l.length:Int)+1),by rw[a0d b],?_⟩;rw[aj (by omega) (by omega)];have:(l.length:Int)+1>(l.length:Int):=by omega
   rw[a0b this];rfl
 |succ n ih=>
  intro i f a op U V W C B;obtain⟨f,rfl⟩:∃g,f=g+1:=⟨f-1,by omega⟩;have s:i<l.length:=by omega
  have D:((i:Int)<(l.length:Int)):=by omega
  have E:(0:Int)<=(i:Int):=by omega
  have N:(a.length+([((i+1:Nat):Int)]:List Int).length)*8<=ag:=by simp[ag];omega
  have O:(op.length+([(i:Int)]:List Int).length)*8<=ag:=by simp[ag];omega
  have P:=aB (i:=i);have Q:db l (i:Int)=l[i].1:=by rw[fF l E (by simpa using s)];simp
  rw[aD,a1d s,a2g];have e:d9 l[i].1=true->∃o m,aH (vJ.l0 k) f (l,a++[((i+1:Nat):Int)],op++[(i:Int)],((i+1:Nat):Int),())=some ((o,m,()),((),()))/\decide (m>(l.length:Int))=kN (dU ((op.map (db l)).reverse) (l[i].1::(l.drop (i+1)).map (·.1))):=by
   intro b;obtain⟨o,m,u,v⟩:=ih (i+1) f (a++[((i+1:Nat):Int)]) (op++[(i:Int)]) (by omega) (by omega) (by simp;omega) (by simp;omega) (λx h=>by
    rcases a0k.1 h with h|h
    ·have:=B x h;omega
    ·simp at h;omega)
   refine⟨o,m,u,?_⟩;rw[v,a3r,a5h];simp only[a2g,a4a,a6q,a6u,a1s,a5i,Q,dU,fu,a0f b,a0c]
  have j:d9 l[i].1=false->l[i].1≠7->l[i].1≠8->∃o m,aH (vJ.l0 k) f (l,a++[((i+1:Nat):Int)],op,((i+1:Nat):Int),())=some ((o,m,()),((),()))/\decide (m>(l.length:Int))=kN (dU ((op.map (db l)).reverse) (l[i].1::(l.drop (i+1)).map (·.1))):=by
   intro b c q;obtain⟨o,m,u,v⟩:=ih (i+1) f (a++[((i+1:Nat):Int)]) op (by omega) (by omega) (by simp;omega) (by omega) (λx h=>by have:=B x h;omega);refine⟨o,m,u,?_⟩;rw[v];simp only[dU,fu,b,a0t,a1y,a0d c,a0d q,a0c]
  rcases a4g op with hn|⟨ini,t,hc⟩
  ·subst hn
   have F:¬((([]:List Int).length:Int)>0):=by simp
   simp only[vJ.l0,ap (p:=(i:Int)<(l.length:Int)),a0f D,ap (p:=(0:Int)<=(i:Int)),a0f E,P,ap (p:=(a.length+([((i+1:Nat):Int)]:List Int).length)*8<=ag),a0f N,ap (p:=(([]:List Int).length:Int)>0),a0d F,a0i,a0a s,ac,m4]
   cases b:d9 l[i].1 with
   |true=>
    simp only[ai,ap,a0f O];exact e b
   |false=>
    simp only[ah,cx];by_cases c:l[i].1=7
    ·refine⟨[],(i:Int),by simp[a0f c],?_⟩
     have:¬((i:Int)>(l.length:Int)):=by omega
     rw[a0m this];rw[c];simp[dU,md,kN]
    ·by_cases q:l[i].1=8
     ·refine⟨[],(i:Int),by simp[a0d c,a0f q],?_⟩
      have:¬((i:Int)>(l.length:Int)):=by omega
      rw[a0m this];rw[q];simp[dU,me,kN]
     ·simp only[a0d c,a0d q]
      exact j b c q
  ·rw[a3v]at hc
   subst hc;have G:=B t (by simp);have w:t.toNat<l.length:=by omega
   have F:(((ini++[t]).length:Int)>0):=by simp only[a0j,a0h,a0g];omega
   have X:(((ini++[t]).length:Int)-1)=(ini.length:Int):=by simp
   have H:wrap .i64 (ini.length:Int)=(ini.length:Int):=aj (by omega) (by simp at C;omega);have c1:0<=(ini.length:Int)/\(ini.length:Int)<((ini++[t]).length:Int):=by simp only[a0j,a0h,a0g];omega
   have c2:0<=(ini.length:Int)/\(ini.length:Int)<=((ini++[t]).length:Int):=by simp only[a0j,a0h,a0g];omega
   have Y:(ini++[t])[ini.length]?=some t:=by simp
   have Z:=fF l G.1 w;have R:0<=t/\t<((a++[((i+1:Nat):Int)]).length:Int):=by simp;omega
   have S:¬t<0:=by omega
   obtain⟨y8,T⟩:∃y,(a++[((i+1:Nat):Int)])[t.toNat]?=some y:=⟨_,a0a (by simp;omega)⟩;have es:aM (ini++[t]) ((0:Int).toNat) (ini.length-(0:Int).toNat)=ini:=by simp[aM]
   have I:(((ini++[t]).map (db l)).reverse)=l[t.toNat].1::(ini.map (db l)).reverse:=by simp[Z]
   simp only[vJ.l0,ap (p:=(i:Int)<(l.length:Int)),a0f D,ap (p:=(0:Int)<=(i:Int)),a0f E,P,ap (p:=(a.length+([((i+1:Nat):Int)]:List Int).length)*8<=ag),a0f N,ap (p:=((ini++[t]).length:Int)>0),a0f F,X,H,ap (p:=0<=(ini.length:Int)/\(ini.length:Int)<((ini++[t]).length:Int)),a0f c1,a0i,Y,a0a s,ac,m4]
   cases b:d9 l[i].1 with
   |true=>
    simp only[ai,ap,a0f O];exact e b
   |false=>
    simp only[ah,cx];by_cases c:l[i].1=7
    ·simp only[a0f c,ap,a0d S,a0f G.1,a0a w,ac]
     by_cases A:l[t.toNat].1=5\/l[t.toNat].1=6
     ·have J:(br k (l[t.toNat].1 !=5) (some (l[t.toNat].1 !=6,())) (some (false,())):Option (Bool×Unit))=some (false,()):=by
       rcases A with h|h<;>simp[h]
      simp only[J,a0c,ah,a0f R,T,ac,a0f c1];obtain⟨o,m,u,v⟩:=ih (i+1) f ((a++[((i+1:Nat):Int)]).set t.toNat ((i+1:Nat):Int)) (ini++[(i:Int)]) (by omega) (by omega) (by simp;omega) (by simp at C⊢;omega) (λx h=>by
       rcases a0k.1 h with h|h
       ·have:=B x (by simp[h]);omega
       ·simp at h;omega)
      have K:(ini++[t]).set ini.length (i:Int)=ini++[(i:Int)]:=by simp
      refine⟨o,m,by rw[K];exact u,?_⟩;rw[v,I];simp only[a3r,a2g,a4a,a5h,a6q,a6u,a1s,a5i,Q,c,dU,oP A,a0c]
     ·have J:(br k (l[t.toNat].1 !=5) (some (l[t.toNat].1 !=6,())) (some (false,())):Option (Bool×Unit))=some (true,()):=by
       have a5:(l[t.toNat].1 !=5)=true:=by simp;omega
       have a6:(l[t.toNat].1 !=6)=true:=by simp;omega
       rw[a5,a6,ai]
      refine⟨[],(i:Int),by simp only[J,a0c,ai],?_⟩;have:¬((i:Int)>(l.length:Int)):=by omega
      rw[a0m this,I];simp only[c,dU,oQ A,a5k,kN]
    ·by_cases q:l[i].1=8
     ·have done:∀d:List Int,d.length=i+1->∃o m,aH (vJ.l0 k) f (l,d,ini,((i+1:Nat):Int),())=some ((o,m,()),((),()))/\decide (m>(l.length:Int))=kN (dU (((ini++[t]).map (db l)).reverse) (l[i].1::(l.drop (i+1)).map (·.1))):=by
       intro d L;obtain⟨o,m,u,v⟩:=ih (i+1) f d ini (by omega) (by omega) L (by simp at C;omega) (λx h=>by have:=B x (by simp[h]);omega);refine⟨o,m,u,?_⟩;rw[v,I];simp only[q,dU,oR,a0c]
      have c5:0<=t/\t<(((a++[((i+1:Nat):Int)]).set t.toNat (i:Int)).length:Int):=by simp;omega
      obtain⟨z,ez⟩:∃y,((a++[((i+1:Nat):Int)]).set t.toNat (i:Int))[t.toNat]?=some y:=⟨_,a0a (by simp;omega)⟩;have c6:0<=(i:Int)/\(i:Int)<((((a++[((i+1:Nat):Int)]).set t.toNat (i:Int)).set t.toNat ((i+1:Nat):Int)).length:Int):=by simp;omega
      obtain⟨z2,M⟩:∃y,(((a++[((i+1:Nat):Int)]).set t.toNat (i:Int)).set t.toNat ((i+1:Nat):Int))[i]?=some y:=⟨_,a0a (by simp;omega)⟩;simp only[a0d c,a0f q,ap,a0d S,a0f c2,a0f R,T,ac,a0f G.1,a0a w,qz,es,a0f c5,ez,a0f c6,M]
      cases eY l[t.toNat].1 with
      |true=>rw[ai];exact done _ (by simp;omega)
      |false=>rw[ah];exact done _ (by simp;omega)
     ·simp only[a0d c,a0d q]
      exact j b c q
abbrev Do:=Int×Int×Unit
def bW (l:List bA) (x:Do):Int:=if x.2.1>=0 then 7 else db l x.1
def lz (k:Nat) (n:bA):Hj k (n,())=some ((n.1==5||n.1==6,()),((),())):=by
 unfold Hj;simp only
 cases (n.1==5)<;>simp
def pq (k:Nat) (n:bA):Ez k (n,())=some ((eY n.1,()),((),())):=by
 unfold Ez eY;simp only
 cases (n.1==9)<;>simp
def uW (n:Int):d9 n=((n==5||n==6)||eY n):=by
 unfold d9 eY
 cases (n==5)<;>cases (n==6)<;>rfl
def vt (k:Nat) (l:List bA) (hl:l.length<=30):∀(n i f:Nat) (a:List Int) (op:List Do),i+n=l.length->n<f->a.length=l.length->op.length<=i->(∀x∈op,(0<=x.1/\x.1<(i:Int))/\x.2.1<(i:Int))->∃o,aH (zS.l0 k) f (l,a,(op,()),(l.length:Int),(i:Int),())=some ((o,kN (dU ((op.map (bW l)).reverse) ((l.drop i).map (·.1))),()),((),())):=by
 intro n
 induction n with
 |zero=>
  intro i f a op U V W F I;obtain⟨f,rfl⟩:∃g,f=g+1:=⟨f-1,by omega⟩;have D:¬((i:Int)<(l.length:Int)):=by omega
  rw[aD,a2c (by omega)];simp only[zS.l0,ap,a0d D,a4a,dU];refine⟨a,?_⟩
  cases op with
  |nil=>rfl
  |cons x r=>
   have:(((x::r).length:Int)==0)=false:=by simp;omega
   rw[this]
   cases hr:((x::r).map (bW l)).reverse with
   |nil=>simp at hr
   |cons y z=>rfl
 |succ n ih=>
  intro i f a op U V W F I;obtain⟨f,rfl⟩:∃g,f=g+1:=⟨f-1,by omega⟩;have w:i<l.length:=by omega
  have D:((i:Int)<(l.length:Int)):=by omega
  have G:(0:Int)<=(i:Int):=by omega
  have X:0<=(i:Int)/\(i:Int)<(a.length:Int):=by omega
  have Y:(op.length+([((i:Int),(-1),())]:List Do).length)*16<=ag:=by simp[ag];omega
  have Z:=aB (i:=i);have ki:bW l ((i:Int),(-1),())=l[i].1:=by
   unfold bW;rw[a0d (show¬((-1:Int)>=0) by decide),fF l G (by simpa using w)];simp
  obtain⟨y1,eo⟩:∃y,a[i]?=some y:=⟨_,a0a (by omega)⟩;have next:∀j:List Do,(∀x∈j,(0<=x.1/\x.1<((i+1:Nat):Int))/\x.2.1<((i+1:Nat):Int))->j.length<=i+1->∀b:List Int,b.length=l.length->∃o,aH (zS.l0 k) f (l,b,(j,()),(l.length:Int),((i+1:Nat):Int),())=some ((o,kN (dU ((j.map (bW l)).reverse) ((l.drop (i+1)).map (·.1))),()),((),())):=λj h1 D b G=>ih (i+1) f b j (by omega) (by omega) G D h1
  have J:∀x∈op,(0<=x.1/\x.1<((i+1:Nat):Int))/\x.2.1<((i+1:Nat):Int):=λx h=>by have:=I x h;omega
  have H:(a.set i ((i+1:Nat):Int)).length=l.length:=by simp;omega
  rw[aD,a1d w,a2g];simp only[zS.l0,J7,ap (p:=(i:Int)<(l.length:Int)),a0f D,ap (p:=(0:Int)<=(i:Int)),a0f G,ap (p:=0<=(i:Int)/\(i:Int)<(a.length:Int)),a0f X,Z,a0i,eo,a0a w,ac,lz,pq];have hq:(br k (l[i].1==5||l[i].1==6) (some (true,())) (some (eY l[i].1,())):Option (Bool×Unit))=some (d9 l[i].1,()):=by
   rw[uW];cases (l[i].1==5||l[i].1==6)<;>simp
  simp only[hq,a0c]
  cases hop:d9 l[i].1 with
  |true=>
   have u:(l[i].1 !=8)=true:=by
    by_cases h:l[i].1=8
    ·rw[h]at hop;exact absurd hop (by decide)
    ·simpa using h
   simp only[ai,ap,a0f Y,ac,a0o,ah,u];obtain⟨o,e⟩:=next (op++[((i:Int),(-1),())]) (λx h=>by
    rcases a0k.1 h with h|h
    ·exact J x h
    ·simp at h;subst h;simp;omega) (by simp;omega) _ H
   refine⟨o,e.trans ?_⟩;simp only[a3r,a2g,a4a,a5h,a6q,a6u,a1s,a5i,ki,dU,fu,a0f hop,a0c]
  |false=>
   simp only[ah,cx];rcases a4g op with hn|⟨ini,t,hc⟩
   ·subst hn
    have E:wrap .i64 ((([]:List Do).length:Int)-1)<0:=by rw[aj (by simp) (by simp)];simp
    by_cases m:l[i].1=7
    ·refine⟨[],?_⟩
     simp only[a0f m,ap,a0f E,a0c,ai,ac,a0u];rw[m];simp[dU,md,kN]
    ·by_cases q:l[i].1=8
     ·refine⟨[],?_⟩
      simp only[a0d m,a0f q,ap,a0f E,ac,a0u,ai];rw[q];simp[dU,me,kN]
     ·have u:(l[i].1 !=8)=true:=by simpa using q
      simp only[a0d m,a0d q,ac,a0o,ah,u,ai];obtain⟨o,e⟩:=next [] (λx h=>by simp at h) (by simp) _ H;refine⟨o,e.trans ?_⟩;simp only[dU,fu,hop,a0t,a1y,a0d m,a0d q,a0c]
   ·rw[a3v]at hc
    subst hc;obtain⟨⟨A,R0⟩,R1⟩:=I t (by simp);have B:t.1.toNat<l.length:=by omega
    have el:(((ini++[t]).length:Int)-1)=(ini.length:Int):=by simp
    have K:wrap .i64 (ini.length:Int)=(ini.length:Int):=aj (by omega) (by simp at F;omega);have E:¬(ini.length:Int)<0:=by omega
    have c1:0<=(ini.length:Int)/\(ini.length:Int)<((ini++[t]).length:Int):=by simp only[a0j,a0h,a0g];omega
    have c2:0<=(ini.length:Int)/\(ini.length:Int)<=((ini++[t]).length:Int):=by simp only[a0j,a0h,a0g];omega
    have eg:(ini++[t])[ini.length]?=some t:=by simp
    have T:=fF l A B;have es:aM (ini++[t]) ((0:Int).toNat) (ini.length-(0:Int).toNat)=ini:=by simp[aM]
    have L:(((ini++[t]).map (bW l)).reverse)=bW l t::(ini.map (bW l)).reverse:=by simp
    have s:∀x∈ini,(0<=x.1/\x.1<((i+1:Nat):Int))/\x.2.1<((i+1:Nat):Int):=λx h=>J x (by simp[h])
    simp only[el,K,a0i,eg];by_cases m:l[i].1=7
    ·simp only[a0f m,ap,a0d E,a0f c1,a0f A,ac,a0a B,lz]
     by_cases c:bW l t=5\/bW l t=6
     ·have v:¬t.2.1>=0:=by
       intro h;unfold bW at c;rw[a0f h]at c;omega
      have M:l[t.1.toNat].1=5\/l[t.1.toNat].1=6:=by
       unfold bW at c;rw[a0d v,T]at c;exact c
      have C:(br k (!(l[t.1.toNat].1==5||l[t.1.toNat].1==6)) (some (true,())) (some (decide (t.2.1>=0),())):Option (Bool×Unit))=some (false,()):=by
       have:(l[t.1.toNat].1==5||l[t.1.toNat].1==6)=true:=by rcases M with h|h<;>simp[h]
       rw[this,a0o,ah,a0m v]
      have u:(l[i].1 !=8)=true:=by rw[m];decide
      simp only[C,a0c,ah,ac,a0o,u,ai];have N:(ini++[t]).set ini.length (t.1,(i:Int),())=ini++[(t.1,(i:Int),())]:=by simp
      rw[N];obtain⟨o,e⟩:=next (ini++[(t.1,(i:Int),())]) (λx h=>by
       rcases a0k.1 h with h|h
       ·exact s x h
       ·simp at h;subst h;simp;omega) (by simp at F⊢;omega) _ H
      refine⟨o,e.trans ?_⟩;have k7:bW l (t.1,(i:Int),())=7:=by unfold bW;rw[ifPosQ]
      rw[L,m];simp only[a3r,a2g,a4a,a5h,a6q,a6u,a1s,a5i,k7,dU,oP c,a0c]
     ·have C:(br k (!(l[t.1.toNat].1==5||l[t.1.toNat].1==6)) (some (true,())) (some (decide (t.2.1>=0),())):Option (Bool×Unit))=some (true,()):=by
       by_cases d:t.2.1>=0
       ·rw[a0b d]
        cases (l[t.1.toNat].1==5||l[t.1.toNat].1==6)<;>simp
       ·unfold bW at c
        rw[a0d d,T]at c;have:(l[t.1.toNat].1==5||l[t.1.toNat].1==6)=false:=by simp;omega
        rw[this,a0u,ai]
      refine⟨[],?_⟩;simp only[C,a0c,ai,ac,a0u];rw[L,m];simp only[dU,oQ c,a5k,kN]
    ·by_cases q:l[i].1=8
     ·have u:(l[i].1 !=8)=false:=by rw[q];decide
      have done:∀b:List Int,b.length=l.length->∃o,aH (zS.l0 k) f (l,b,(ini,()),(l.length:Int),((i+1:Nat):Int),())=some ((o,kN (dU (((ini++[t]).map (bW l)).reverse) (l[i].1::(l.drop (i+1)).map (·.1))),()),((),())):=by
       intro b O;obtain⟨o,e⟩:=next ini s (by simp at F;omega) b O;refine⟨o,e.trans ?_⟩;rw[L,q];simp only[dU,oR,a0c]
      simp only[a0d m,a0f q,ap,a0d E,a0f c1,a0f c2,es,ac,a0o,ah,u];have c3:0<=t.1/\t.1<((a.set i ((i+1:Nat):Int)).length:Int):=by simp;omega
      obtain⟨a1,P⟩:∃y,(a.set i ((i+1:Nat):Int))[t.1.toNat]?=some y:=⟨_,a0a (by simp;omega)⟩;have c4:0<=t.1/\t.1<(((a.set i ((i+1:Nat):Int)).set t.1.toNat (i:Int)).length:Int):=by simp;omega
      obtain⟨a2,Q⟩:∃y,((a.set i ((i+1:Nat):Int)).set t.1.toNat (i:Int))[t.1.toNat]?=some y:=⟨_,a0a (by simp;omega)⟩;have c5:0<=(i:Int)/\(i:Int)<((((a.set i ((i+1:Nat):Int)).set t.1.toNat (i:Int)).set t.1.toNat ((i+1:Nat):Int)).length:Int):=by simp;omega
      obtain⟨a3,R⟩:∃y,(((a.set i ((i+1:Nat):Int)).set t.1.toNat (i:Int)).set t.1.toNat ((i+1:Nat):Int))[i]?=some y:=⟨_,a0a (by simp;omega)⟩;simp only[a0f c3,P,ac,a0f A,a0a B,pq,a0f c4,Q,a0f c5,R]
      cases eY l[t.1.toNat].1 with
      |true=>rw[ai];exact done _ (by simp;omega)
      |false=>
       rw[ah];by_cases d:t.2.1>=0
       ·have c6:0<=t.2.1/\t.2.1<((((a.set i ((i+1:Nat):Int)).set t.1.toNat (i:Int)).set t.1.toNat (wrap .i64 (t.2.1+1))).length:Int):=by simp;omega
        obtain⟨a4,S⟩:∃y,(((a.set i ((i+1:Nat):Int)).set t.1.toNat (i:Int)).set t.1.toNat (wrap .i64 (t.2.1+1)))[t.2.1.toNat]?=some y:=⟨_,a0a (by simp;omega)⟩;simp only[a0f d,a0f c6,S,ac];exact done _ (by simp;omega)
       ·simp only[a0d d]
        exact done _ (by simp;omega)
     ·have u:(l[i].1 !=8)=true:=by simpa using q
      simp only[a0d m,a0d q,ac,a0o,ah,u,ai];obtain⟨o,e⟩:=next (ini++[t]) J (by omega) _ H;refine⟨o,e.trans ?_⟩;simp only[dU,fu,hop,a0t,a1y,a0d m,a0d q,a0c]
def yH (k:Nat) (d:4194304<k) (l:List bA) (a:l.length<=30):∃o m,vJ k (l,())=some ((o,m,()),((),()))/\decide (m>(l.length:Int))=mc l:=by
 obtain⟨o,m,b,c⟩:=vq k l a l.length 0 k [] [] (by omega) (by omega) rfl (a1m _) (λx h=>by simp at h);exact⟨o,m,b,c⟩
def yI (k:Nat) (c:4194304<k) (l:List bA) (a:l.length<=30):∃o,zS k (l,())=some ((o,mc l,()),((),())):=by
 unfold zS;have b:0<=(l.length:Int)/\(l.length:Int)<=(l.length:Int)/\(l.length:Int)*8<=ag:=by simp[ag];omega
 simp only[ap,a0f b,a0i];obtain⟨o,h⟩:=vt k l a l.length 0 k (List.replicate l.length (Kd.z (.int .i64))) [] (by omega) (by omega) (by simp) (a1m _) (λx h=>by simp at h);exact⟨o,h⟩
def vQ (n:Nat) (v:Int):Bool:=decide (0<=v/\v<=(n:Int)-1)
def gP {α:Type} (l:List α):Bool:=(l.length:Int)==0
def nE (a b:Int):Bool:=decide (-999999999999999999<=a/\a<=b)&& decide (b<=999999999999999999)
def bt (d:aE) (n:bA):Bool:=
 if n.1=1 then vQ d.1.length n.2.1&& (gP n.2.2.1&& ((bV d n.2.2.2.1==1)&& ((n.2.2.2.2.1==0)&& (n.2.2.2.2.2.1==0))))
 else if n.1=2 then vQ d.2.1.length n.2.1&& (gP n.2.2.1&& ((bV d n.2.2.2.1==2)&& ((n.2.2.2.2.1==0)&& (n.2.2.2.2.2.1==0))))
 else if n.1=3 then vQ d.2.2.1.length n.2.1&& ((bV d n.2.2.1==1)&& ((bV d n.2.2.2.1==1)&& ((n.2.2.2.2.1==0)&& (n.2.2.2.2.2.1==0))))
 else if n.1=4 then vQ d.1.length n.2.1&& (gP n.2.2.1&& (gP n.2.2.2.1&& nE n.2.2.2.2.1 n.2.2.2.2.2.1))
 else if n.1=13 then vQ d.1.length n.2.1&& (gP n.2.2.1&& (gP n.2.2.2.1&& (nE n.2.2.2.2.1 n.2.2.2.2.2.1&& decide (n.2.2.2.2.2.1<=n.2.2.2.2.1+3))))
 else if n.1=10 then(n.2.1==0)&& (gP n.2.2.1&& ((bV d n.2.2.2.1==2)&& (decide (1<=n.2.2.2.2.1/\n.2.2.2.2.1<=3)&& (n.2.2.2.2.2.1==0))))
 else if n.1=5\/n.1=6\/n.1=9\/n.1=11\/n.1=12 then(n.2.1==0)&& (gP n.2.2.1&& ((bV d n.2.2.2.1==2)&& ((n.2.2.2.2.1==0)&& (n.2.2.2.2.2.1==0))))
 else if n.1=7\/n.1=8\/n.1=14 then(n.2.1==0)&& (gP n.2.2.1&& (gP n.2.2.2.1&& ((n.2.2.2.2.1==0)&& (n.2.2.2.2.2.1==0))))
 else false
def m5 (n:Int):n=1\/n=2\/n=3\/n=4\/n=5\/n=6\/n=7\/n=8\/n=9\/n=10\/n=11\/n=12\/n=13\/n=14\/(n<1\/14<n):=by omega
def Ls (k:Nat) (a b c:Int) (f:_->Option α):bd k (z7 k (a,b,c,())) f=f ((decide (b<=a/\a<=c),()),((),(),(),())):=by rw[dh,ac]
def Ny (k:Nat) (l:eN) (f:_->Option α):bd k (xu k (l,())) f=f (((l.length:Int),()),((),())):=by unfold xu;rw[ac]
def Nz (k:Nat) (l:List pB) (f:_->Option α):bd k (CE k (l,())) f=f (((l.length:Int),()),((),())):=by unfold CE;rw[ac]
def H7 (k:Nat) (n:bA):F8 k (n,())=some (((n.2.1==0)&& (gP n.2.2.1&& (gP n.2.2.2.1&& ((n.2.2.2.2.1==0)&& (n.2.2.2.2.2.1==0)))),()),((),())):=by
 unfold F8 gP;simp only
 cases (n.2.1==0)<;>cases ((n.2.2.1.length:Int)==0)<;>cases ((n.2.2.2.1.length:Int)==0)<;>cases (n.2.2.2.2.1==0)<;>simp
def H8 (k:Nat) (n:bA):xy k (n,())=some ((nE n.2.2.2.2.1 n.2.2.2.2.2.1,()),((),())):=by
 unfold xy nE;simp only[dh,ac]
 cases decide (-999999999999999999<=n.2.2.2.2.1/\n.2.2.2.2.1<=n.2.2.2.2.2.1)<;>simp
def NA (k:Nat) (n:bA) (f:_->Option α):bd k (F8 k (n,())) f=f (((n.2.1==0)&& (gP n.2.2.1&& (gP n.2.2.2.1&& ((n.2.2.2.2.1==0)&& (n.2.2.2.2.2.1==0)))),()),((),())):=by rw[H7,ac]
def O6 (k:Nat) (n:bA) (f:_->Option α):bd k (xy k (n,())) f=f ((nE n.2.2.2.2.1 n.2.2.2.2.2.1,()),((),())):=by rw[H8,ac]
def uX (n:Int):Int:=if n=1\/n=3 then 1 else if n=2\/n=5\/n=6\/n=9\/n=10\/n=11\/n=12 then 2 else 0
def H9 (k:Nat) (n:Int):Hg k (n,())=some ((uX n,()),((),())):=by
 rcases m5 n with rfl|rfl|rfl|rfl|rfl|rfl|rfl|rfl|rfl|rfl|rfl|rfl|rfl|rfl|h
 all_goals first
  |(unfold Hg uX;simp[cx];done)
  |(
   have e:∀c:Int,1<=c->c<=14->¬n=c:=λc a b=>by omega
   unfold Hg uX;simp[cx,e])
def Lt (k:Nat) (t:4194304<k) (g:k<=4611686018427387903) (d:aE) (i:dG d) (n:bA) (u:n.2.2.1.length<=1048576) (w:n.2.2.2.1.length<=1048576):A2 k (d,n,())=some ((bt d n,()),((),(),())):=by
 obtain⟨a,v,I,E,c,e,⟨⟩⟩:=n;simp only at u w;have M:=i.n0;have N:=i.n1;have n2:=i.n2;have x:=aj (n:=(d.1.length:Int)-1) (by omega) (by omega);have w1:=aj (n:=(d.2.1.length:Int)-1) (by omega) (by omega);have y:=aj (n:=(d.2.2.1.length:Int)-1) (by omega) (by omega);have z:∀ {α:Type} (f:_->Option α),bd k (Hh k (d,E,())) f=f ((bV d E,()),((),(),())):=λf=>by rw[Bm k t g d i E w,ac]
 have A:∀ {α:Type} (f:_->Option α),bd k (Hh k (d,I,())) f=f ((bV d I,()),((),(),())):=λf=>by rw[Bm k t g d i I u,ac]
 unfold A2 bt;rcases m5 a with rfl|rfl|rfl|rfl|rfl|rfl|rfl|rfl|rfl|rfl|rfl|rfl|rfl|rfl|h
 all_goals (simp(config:= {failIfUnchanged:=false}) only[ni,A2.h7,A2.h11,A2.h12,H9,uX,ac,cx,ap,z,A,Ny,Nz,Ls,NA,O6,x,w1,y,↓reduceIte,Int.reduceEq,Int.reduceLT,Int.reduceGT,Int.reduceLE,Int.reduceNe,or_true,true_or,a5y,false_or,a0c,ai,ah,Int.reduceBEq,Int.reduceBNe,gt_iff_lt])
 case inr.inr.inr.inr.inr.inr.inr.inr.inr.inr.inr.inr.inr.inr=>
  have B:¬a=1:=by omega
  have C:¬a=2:=by omega
  have D:¬a=3:=by omega
  have F:¬a=4:=by omega
  have G:¬a=5:=by omega
  have H:¬a=6:=by omega
  have J:¬a=7:=by omega
  have K:¬a=8:=by omega
  have L:¬a=9:=by omega
  have l:¬a=10:=by omega
  have m:¬a=11:=by omega
  have o:¬a=12:=by omega
  have j:¬a=13:=by omega
  have p:¬a=14:=by omega
  have q:¬(1<=a/\a<=14):=by omega
  have r:(a==13)=false:=by simpa using j
  simp only[B,C,D,F,G,H,J,K,L,l,m,o,j,p,q,r,or_self,↓reduceIte,a0c,ah,Int.reduceLT]
 case inr.inr.inr.inr.inr.inr.inr.inr.inr.inr.inr.inr.inl=>
  by_cases b:0<=v/\v<=(d.1.length:Int)-1
  ·cases he:nE c e with
   |false=>simp[vQ,b,he]
   |true=>
    have O:(-999999999999999999<=c/\c<=e)/\e<=999999999999999999:=by
     unfold nE at he;rw[a0e]at he;exact⟨a0w he.1,a0w he.2⟩
    have s:decide (e-c<=3)=decide (e<=c+3):=by apply decide_eq_decide.2;omega
    rw[aj (n:=e-c) (by omega) (by omega),s]
    cases decide (e<=c+3)<;>simp[vQ,b,gP]
  ·simp[vQ,b]
 case inr.inr.inr.inr.inr.inr.inr.inr.inr.inl=>
  by_cases b:1<=c/\c<=3<;>cases he:(bV d E==2)<;>simp[bne,vQ,b,he,gP]
 case inl=>
  by_cases b:0<=v/\v<=(d.1.length:Int)-1<;>cases he:(bV d E==1)<;>simp[bne,vQ,b,he,gP]
 case inr.inl=>
  by_cases b:0<=v/\v<=(d.2.1.length:Int)-1<;>cases he:(bV d E==2)<;>simp[bne,vQ,b,he,gP]
 case inr.inr.inl=>
  by_cases b:0<=v/\v<=(d.2.2.1.length:Int)-1<;>cases he:(bV d E==1)<;>cases e:(bV d I==1)<;>simp[bne,vQ,b,he,e,gP]
 case inr.inr.inr.inl=>
  by_cases b:0<=v/\v<=(d.1.length:Int)-1<;>cases he:nE c e<;>simp[bne,vQ,b,he,gP]
 all_goals (cases he:(bV d E==2)<;>simp[bne,he,gP])
def I4 (d:aE) (n:Int):Int:=if n=1\/n=4\/n=13 then(d.1.length:Int)else if n=2 then(d.2.1.length:Int)else if n=3 then(d.2.2.1.length:Int)else-1
def BB (k:Nat) (d:aE) (n:Int):Hb k (d,n,())=some ((I4 d n,n==3,uX n,(n==4||(n==10||n==13)),()),((),(),())):=by
 rcases m5 n with rfl|rfl|rfl|rfl|rfl|rfl|rfl|rfl|rfl|rfl|rfl|rfl|rfl|rfl|h
 all_goals first
  |(unfold Hb uX I4;simp[cx];done)
  |(
   have e:∀c:Int,1<=c->c<=14->¬n=c:=λc i j=>by omega
   have f:(n==3)=false:=by simpa using e 3 (by omega) (by omega)
   have g:(n==4)=false:=by simpa using e 4 (by omega) (by omega)
   have a:(n==10)=false:=by simpa using e 10 (by omega) (by omega)
   have b:(n==13)=false:=by simpa using e 13 (by omega) (by omega)
   unfold Hb uX I4;simp[cx,e,f,g,a,b])
def PC (k:Nat) (a b c:Int) (f:_->Option α):bd k (qq k (a,b,c,())) f=f ((decide (b<=a/\a<=c),()),((),(),(),())):=by rw[jt,ac]
def Qa (l:List α):decide ((l.length:Int)>0)= !gP l:=by
 unfold gP
 cases l with
 |nil=>rfl
 |cons x r=>simp;omega
def rP (a b:Int):nE a b=(decide (-999999999999999999<=a/\a<=999999999999999999)&& decide (a<=b/\b<=999999999999999999)):=by
 rw[a3w];simp only[nE,a0e,a0v];omega
def Lu (k:Nat) (w:4194304<k) (i:k<=4611686018427387903) (d:aE) (j:dG d) (l:aO d=true) (n:bA):Hd k (d,n,())=some ((bt d n,()),((),(),())):=by
 obtain⟨c,v,I,E,e,g,⟨⟩⟩:=n;have S:=j.n0;have T:=j.n1;have n2:=j.n2;have x:=aj (n:=(d.1.length:Int)-1) (by omega) (by omega);have w1:=aj (n:=(d.2.1.length:Int)-1) (by omega) (by omega);have y:=aj (n:=(d.2.2.1.length:Int)-1) (by omega) (by omega);have z:¬((d.1.length:Int)<0):=by omega
 have A:¬((d.2.1.length:Int)<0):=by omega
 have B:¬((d.2.2.1.length:Int)<0):=by omega
 have C:((d.1.length:Int)>=0):=by omega
 have D:((d.2.1.length:Int)>=0):=by omega
 have F:((d.2.2.1.length:Int)>=0):=by omega
 have G:∀ {α:Type} (f:_->Option α),bd k (A0 k (d,E,())) f=f ((bV d E,()),((),(),())):=λf=>by rw[Bn k w i d j E l,ac]
 have H:∀ {α:Type} (f:_->Option α),bd k (A0 k (d,I,())) f=f ((bV d I,()),((),(),())):=λf=>by rw[Bn k w i d j I l,ac]
 unfold Hd bt;rcases m5 c with rfl|rfl|rfl|rfl|rfl|rfl|rfl|rfl|rfl|rfl|rfl|rfl|rfl|rfl|h
 case inr.inr.inr.inr.inr.inr.inr.inr.inr.inr.inr.inr.inr.inr=>
  have J:¬c=1:=by omega
  have K:¬c=2:=by omega
  have L:¬c=3:=by omega
  have M:¬c=4:=by omega
  have N:¬c=5:=by omega
  have O:¬c=6:=by omega
  have P:¬c=7:=by omega
  have Q:¬c=8:=by omega
  have R:¬c=9:=by omega
  have o:¬c=10:=by omega
  have p:¬c=11:=by omega
  have q:¬c=12:=by omega
  have r:¬c=13:=by omega
  have s:¬c=14:=by omega
  have t:¬(1<=c/\c<=14):=by omega
  simp only[BB,ac,PC,a0m t,a0u,ai,J,K,L,M,N,O,P,Q,R,o,p,q,r,s,or_self,↓reduceIte]
 all_goals (simp(config:= {failIfUnchanged:=false}) only[BB,I4,uX,ac,cx,ap,G,H,PC,x,w1,y,z,A,B,C,D,F,Qa,↓reduceIte,Int.reduceEq,Int.reduceLT,Int.reduceGT,Int.reduceLE,Int.reduceGE,Int.reduceNe,Int.reduceNeg,or_true,true_or,a5y,false_or,a0c,ai,ah,Int.reduceBEq,Int.reduceBNe,gt_iff_lt,ge_iff_le,and_self,a8r,a0o,a0u,Bool.or_self,Bool.or_true,a8f,a8t,a5s,Int.reduceSub])
 case inl=>
  by_cases b:0<=v/\v<=(d.1.length:Int)-1<;>cases hn:gP I<;>cases he:(bV d E==1)<;>cases a:(e==0)<;>cases hhi:(g==0)<;>simp[bne,vQ,b,he,hn,a,hhi]
 case inr.inl=>
  by_cases b:0<=v/\v<=(d.2.1.length:Int)-1<;>cases hn:gP I<;>cases he:(bV d E==2)<;>cases a:(e==0)<;>cases hhi:(g==0)<;>simp[bne,vQ,b,he,hn,a,hhi]
 case inr.inr.inl=>
  by_cases b:0<=v/\v<=(d.2.2.1.length:Int)-1<;>cases he:(bV d E==1)<;>cases hI:(bV d I==1)<;>cases a:(e==0)<;>cases hhi:(g==0)<;>simp[bne,vQ,b,he,hI,a,hhi]
 case inr.inr.inr.inl=>
  rw[rP];by_cases b:0<=v/\v<=(d.1.length:Int)-1<;>cases hn:gP I<;>cases he:gP E<;>cases m:decide (-999999999999999999<=e/\e<=999999999999999999)<;>cases u:decide (e<=g/\g<=999999999999999999)<;>simp[bne,vQ,b,he,hn]
 case inr.inr.inr.inr.inr.inr.inr.inr.inr.inr.inr.inr.inl=>
  by_cases b:0<=v/\v<=(d.1.length:Int)-1
  ·cases hn:gP I
   ·simp[bne,vQ,b,hn]
   cases he:gP E
   ·simp[bne,vQ,b,hn,he]
   by_cases m: -999999999999999999<=e/\e<=999999999999999999
   ·by_cases u:e<=g/\g<=999999999999999999
    ·rw[aj (n:=e+3) (by omega) (by omega),rP,a0b m,a0b u]
     cases decide (g<=e+3)<;>simp[bne,vQ,b]
    ·rw[rP,a0b m,a0m u]
     simp[bne,vQ,b]
   ·rw[rP,a0m m]
    simp[bne,vQ,b]
  ·simp[vQ,b]
 case inr.inr.inr.inr.inr.inr.inr.inr.inr.inl=>
  by_cases a:1<=e/\e<=3<;>cases b:(v==0)<;>cases hn:gP I<;>cases he:(bV d E==2)<;>simp[bne,b,he,hn,a]
 all_goals (cases b:(v==0)<;>cases hn:gP I<;>cases he:(bV d E==2)<;>cases hE:gP E<;>cases a:(e==0)<;>cases hhi:(g==0)<;>simp[bne,b,he,hn,hE,a,hhi])
abbrev eC:=eN×eN×List pB×List bA×Unit
def au (p:eC):aE:=(p.1,p.2.1,p.2.2.1,())
structure m6 (p:eC):Prop where
 d:dG (au p)
 n:p.2.2.2.1.length<=1048576
 i:∀n∈p.2.2.2.1,n.2.2.1.length<=1048576
 e:∀n∈p.2.2.2.1,n.2.2.2.1.length<=1048576
def fG (p:eC):Bool:=aO (au p)&& (decide (p.2.2.2.1.length<=30)&& (p.2.2.2.1.all (bt (au p))&& mc p.2.2.2.1))
def pV (k:Nat) (c:4194304<k) (e:k<=4611686018427387903) (p:eC) (j:m6 p):sR k (p,())=some ((fG p,()),((),())):=by
 unfold sR fG;have q:uv k ((p.1,p.2.1,p.2.2.1,()),())=some ((aO (au p),()),((),())):=gX k c (au p) j.d;simp only[q,ac]
 cases hdo:aO (au p)with
 |false=>simp
 |true=>
  simp only[a0o,ah,a1n,a0c,ap];by_cases l:(p.2.2.2.1.length:Int)>30
  ·have:decide (p.2.2.2.1.length<=30)=false:=by simp;omega
   rw[a0f l,this];rfl
  ·have a:p.2.2.2.1.length<=30:=by omega
   rw[a0d l,a0b a,a1n];obtain⟨o,m,s,t⟩:=yH k c p.2.2.2.1 a;have h:=iJ (b:=sR.l0 k) (λi=>((p.1,p.2.1,p.2.2.1,p.2.2.2.1,()),(i:Int),())) p.2.2.2.1 (λn=> !bt (au p) n) (rf:=some ((false,()),((),()))) (r:=some ((mc p.2.2.2.1,()),((),()))) (λG i u=>by
    have g:((i:Int)<(p.2.2.2.1.length:Int)):=by omega
    have v:(0:Int)<=(i:Int):=by omega
    have w:Hd k ((p.1,p.2.1,p.2.2.1,()),p.2.2.2.1[i],())=some ((bt (au p) p.2.2.2.1[i],()),((),(),())):=Lu k c e (au p) j.d hdo p.2.2.2.1[i];simp only[sR.l0,ap,a0f g,a0f v,a0i,a0a u,ac,w];rw[aB]
    cases bt (au p) p.2.2.2.1[i]<;>simp) (λG=>by
    have g:¬((p.2.2.2.1.length:Int)<(p.2.2.2.1.length:Int)):=by omega
    simp only[sR.l0,ap,a0d g,s,ac,t]) (f:=k)
   refine Eq.trans h ?_
   rw[mN]
   cases p.2.2.2.1.all (bt (au p))<;>simp
def Aq (k:Nat) (j:4194304<k) (e:k<=4611686018427387903) (d:aE) (m:dG d) (l:List bA) (u:l.length<=1048576) (p:∀n∈l,n.2.2.1.length<=1048576) (q:∀n∈l,n.2.2.2.1.length<=1048576):Hi k (l,(d,()),())=some ((l.all (bt d),()),((),((),()),())):=by
 obtain⟨n,r,a⟩:=fU (b:=xz.l0 k) (λi=>(l,(((d,()),()),()),(l.length:Int),(i:Int),())) l (λt=> !bt d t) (o:=((),(((d,()),()),()),())) (λG i c=>by
  have a:((i:Int)<(l.length:Int)):=by omega
  have s:(0:Int)<=(i:Int):=by omega
  have h:=a0n c;simp only[xz.l0,MU,Lt k j e d m l[i] (p _ h) (q _ h),ap,a0f a,a0f s,a0i,a0a c,ac];rw[aB]
  cases bt d l[i]<;>simp) (λG=>by
  have a:¬((l.length:Int)<(l.length:Int)):=by omega
  simp only[xz.l0,ap,a0d a]) (f:=k)
 unfold Hi MV xz;have g:aH (xz.l0 k) k (l,(((d,()),()),()),(l.length:Int),0,())=some ((n,()),((),(((d,()),()),()),())):=r;simp only[g,ac,a,mN,a8j]
def Ar (k:Nat) (f:4194304<k) (a:k<=4611686018427387903) (p:eC) (b:m6 p):J8 k (p,())=some ((fG p,()),((),())):=by
 unfold J8 fG;have h:IL k ((p.1,p.2.1,p.2.2.1,()),())=some ((aO (au p),()),((),())):=pQ k f a (au p) b.d;have j:Hi k (p.2.2.2.1,((p.1,p.2.1,p.2.2.1,()),()),())=some ((p.2.2.2.1.all (bt (au p)),()),((),((),()),())):=Aq k f a (au p) b.d p.2.2.2.1 b.n b.i b.e;simp only[h,ac]
 cases hdo:aO (au p)with
 |false=>simp
 |true=>
  simp only[a0o,ah,a1n,ap];by_cases g:(p.2.2.2.1.length:Int)>30
  ·have:decide (p.2.2.2.1.length<=30)=false:=by simp;omega
   rw[a0f g,this];rfl
  ·have c:p.2.2.2.1.length<=30:=by omega
   obtain⟨o,t⟩:=yI k f p.2.2.2.1 c;rw[a0d g,a0b c,a1n];simp only[j,t,ac]
   cases p.2.2.2.1.all (bt (au p))<;>simp
end Go.Pev.F
namespace Go.Pev
def Kd.Small:(k:Kd)->k.T->Prop
 | .str,s=>s.length<=1048576
 | .sl _ e,l=>l.length<=1048576/\∀x∈l,e.Small x
 | .cons a b,x=>a.Small x.1/\b.Small x.2
 |_,_=>True
end Go.Pev
section
namespace Go.Pev.F
def BC:∀ {a b:List cG},a.length=b.length->nJ a b=0->a=b
 |[],[],_,_=>rfl
 |x::a,y::b,h,e=>by
  simp only[nJ]at e;rcases m0 x y with⟨c,f1⟩|⟨c,f1⟩|⟨c,f1,f2⟩
  ·rw[ifNegQ]at e;omega
  ·rw[ifNegQ]at e;omega
  ·rw[a0f c]at e
   obtain⟨d,f,⟨⟩⟩:=x;obtain⟨g,i,⟨⟩⟩:=y;rw[BC (by simpa using h) e];simp only at f1 f2;rw[f1,f2]
 |[],_::_,h,_=>by simp at h
 |_::_,[],h,_=>by simp at h
def BD {a b:List cG} (h:da a b=0):a=b:=by
 unfold da at h;by_cases c:a.length<b.length
 ·rw[a0f c]at h;omega
 ·by_cases d:a.length>b.length
  ·rw[a0d c,a0f d]at h;omega
  ·rw[a0d c,a0d d]at h
   exact BC (by omega) h
