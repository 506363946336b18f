/-
  Small laws for the printed texts.
-/
import Derived.Test.YtjjmipjhddlncaaGreatDoorA02
import Derived.Lib.ItoaNum
import Derived.Test.YtjjmipjhddlncaaGreatDoorA05
import Derived.KernelRfl
set_option linter.all false
noncomputable section
open Go.IntKind (wrap)
namespace Go.Pev
variable {n:Int}
@[simp] theorem ai {α:Type} (n:Nat) (x y:Option α):br n true x y=x:=by rw[gZ];rfl
@[simp] theorem ah {α:Type} (n:Nat) (x y:Option α):br n false x y=y:=by rw[gZ];rfl
@[simp] theorem aa {α β:Type} (n:Nat) (a:β) (f:β->Option α):bd n (some a) f=f a:=by rw[De];rfl
@[simp] theorem RL {α β:Type} (n:Nat) (f:β->Option α):bd n none f=none:=by rw[De];rfl
def an {α:Type} (n:Nat) (p:Prop) [Decidable p] (x y:Option α):br n (decide p) x y=if p then x else y:=by
 by_cases h:p<;>simp[h]
def az {A R:Type} (b:(A->Option R)->A->Option R) (n:Nat) (x:A):aP b (n+1) x=b (aP b n) x:=rfl
def ak (a: -9223372036854775808<=n) (b:n<=9223372036854775807):wrap .i64 n=n:=by
 simp[wrap,IntKind.bits,IntKind.signed];omega
def gM (a:0<=n:=by omega) (b:n<18446744073709551616:=by omega):wrap .u64 n=n:=by
 simp[wrap,IntKind.bits,IntKind.signed];omega
def rS (a: -9223372036854775808<=n) (b:n<0):wrap .u64 n=n+18446744073709551616:=by
 simp[wrap,IntKind.bits,IntKind.signed];omega
end Go.Pev
namespace Go.Pev.F
def bP {α:Type} (k:Nat) (a b:Int) (x y:Option α):br k (a==b) x y=if a=b then x else y:=by
 by_cases h:a=b
 ·simp[h]
 ·have:(a==b)=false:=by simpa using h
  rw[this,ah,a0e h]
def jV (k:Nat) (a b c:Int):pO k (a,b,c,())=some ((decide (b<=a/\a<=c),()),((),(),(),())):=by
 unfold pO;by_cases h:b<=a<;>by_cases d:a<=c<;>simp[h,d]
def cI (k:Nat) (a b c:Int):z7 k (a,b,c,())=some ((decide (b<=a/\a<=c),()),((),(),(),())):=by
 unfold z7;by_cases h:b<=a<;>by_cases d:a<=c<;>simp[h,d]
end Go.Pev.F
namespace Go.Pev
variable {A R α:Type} {f:Nat}
def ca {b:(A->Option R)->A->Option R} (st:Nat->A) (m:Nat) {r:Option R} (h:∀G i,i<m->b G (st i)=G (st (i+1))) (d:∀G,b G (st m)=r) (a:m<f):aP b f (st 0)=r:=by
 have c:∀(n i f:Nat),i+n=m->n<f->aP b f (st i)=r:=by
  intro n
  induction n with
  |zero=>
   intro i f hi a;obtain⟨f,rfl⟩:∃g,f=g+1:=⟨f-1,by omega⟩;obtain rfl:i=m:=by omega
   rw[az,d]
  |succ n ih=>
   intro i f hi a;obtain⟨f,rfl⟩:∃g,f=g+1:=⟨f-1,by omega⟩;rw[az,h _ i (by omega)];exact ih (i+1) f (by omega) (by omega)
 exact c m 0 f (by omega) a
def kD {b:(A->Option R)->A->Option R} (st:Nat->A) (m:Nat) (q:Nat->Bool) (rf:Nat->Option R) {r:Option R} (h:∀G i,i<m->b G (st i)=if q i=true then rf i else G (st (i+1))) (p:∀G,b G (st m)=r) (k:m<f):(∃i,i<m/\q i=true/\aP b f (st 0)=rf i)\/((∀i,i<m->q i=false)/\aP b f (st 0)=r):=by
 have l:∀(n i f:Nat),i+n=m->n<f->(∃j,i<=j/\j<m/\q j=true/\aP b f (st i)=rf j)\/((∀j,i<=j->j<m->q j=false)/\aP b f (st i)=r):=by
  intro n
  induction n with
  |zero=>
   intro i f hi k;obtain⟨f,rfl⟩:∃g,f=g+1:=⟨f-1,by omega⟩;obtain rfl:i=m:=by omega
   exact .inr ⟨λj c a=>by omega,by rw[az,p]⟩
  |succ n ih=>
   intro i f hi k;obtain⟨f,rfl⟩:∃g,f=g+1:=⟨f-1,by omega⟩;rw[az,h _ i (by omega)]
   cases hq:q i with
   |true=>exact .inl ⟨i,a1n _,by omega,hq,by simp⟩
   |false=>
    simp only[a0u,a1z];rcases ih (i+1) f (by omega) (by omega)with⟨j,c,a,e,d⟩|⟨c,a⟩
    ·exact .inl ⟨j,by omega,a,e,d⟩
    ·refine .inr ⟨λj e d=> ?_,a⟩
     by_cases o:j=i
     ·rw[o];exact hq
     ·exact c j (by omega) d
 rcases l m 0 f (by omega) k with⟨j,_,a,e,d⟩|⟨c,a⟩
 ·exact .inl ⟨j,a,e,d⟩
 ·exact .inr ⟨λj o=>c j (by omega) o,a⟩
def lV {b:(A->Option R)->A->Option R} (st:Nat->A) (l:List α) (p:α->Bool) {rf r:Option R} (h:∀G i (hi:i<l.length),b G (st i)=if p l[i]=true then rf else G (st (i+1))) (d:∀G,b G (st l.length)=r) (g:l.length<f:=by omega):aP b f (st 0)=if l.any p=true then rf else r:=by
 rcases kD st l.length (λi=>if hi:i<l.length then p l[i]else false) (λ_=>rf) (r:=r) (λG i hi=>by simp only[a8w hi];exact h G i hi) d g with⟨i,hi,c,e⟩|⟨c,e⟩
 ·simp only[a8w hi]at c
  have a:l.any p=true:=a3w.2 ⟨l[i],a0l _,c⟩;rw[e,a0b a]
 ·have a:¬l.any p=true:=by
   intro a;obtain⟨x,j,k⟩:=a3w.1 a;obtain⟨i,hi,rfl⟩:=a2g.1 j;have:=c i hi;simp only[a8w hi]at this;rw[k]at this
   cases this
  rw[e,a0e a]
def fD {β:Type} {b:(A->Option ((Int×Unit)×β))->A->Option ((Int×Unit)×β)} (st:Nat->A) (l:List α) (p:α->Bool) {o:β} (h:∀G i (hi:i<l.length),b G (st i)=if p l[i]=true then some (((i:Int),()),o)else G (st (i+1))) (d:∀G,b G (st l.length)=some ((-1,()),o)) (g:l.length<f:=by omega):∃n:Int,aP b f (st 0)=some ((n,()),o)/\decide (n>=0)=l.any p:=by
 rcases kD st l.length (λi=>if hi:i<l.length then p l[i]else false) (λi=>some (((i:Int),()),o)) (r:=some ((-1,()),o)) (λG i hi=>by simp only[a8w hi];exact h G i hi) d g with⟨i,hi,c,e⟩|⟨c,e⟩
 ·simp only[a8w hi]at c
  refine⟨i,e,?_⟩;have a:l.any p=true:=a3w.2 ⟨l[i],a0l _,c⟩;rw[a];simp
 ·refine⟨-1,e,?_⟩
  have a:l.any p=false:=by
   cases a:l.any p with
   |false=>rfl
   |true=>
    obtain⟨x,j,k⟩:=a3w.1 a;obtain⟨i,hi,rfl⟩:=a2g.1 j;have:=c i hi;simp only[a8w hi]at this;rw[k]at this
    cases this
  rw[a];simp
def xD {b:(A->Option R)->A->Option R} (st:Nat->A) (m:Nat) (q:Nat->Bool) {rf r:Option R} (h:∀G i,i<m->b G (st i)=if q i=true then rf else G (st (i+1))) (d:∀G,b G (st m)=r) (g:m<f:=by omega):aP b f (st 0)=if(List.range m).any q=true then rf else r:=by
 rcases kD st m q (λ_=>rf) (r:=r) h d g with⟨i,hi,a,e⟩|⟨a,e⟩
 ·rw[e,a0b (a3w.2 ⟨i,a2i.2 hi,a⟩)]
 ·rw[e,a0e]
  intro j;obtain⟨i,hi,c⟩:=a3w.1 j;rw[a i (a2i.1 hi)]at c
  cases c
def aH {i:Nat} (h:i<4611686018427387904:=by omega):wrap .i64 ((i:Int)+1)=((i+1:Nat):Int):=by
 rw[ak (by omega) (by omega)];omega
def pr (l:List α) (q:α->Bool):(l.any λx=> !q x)= !l.all q:=by rw[a6k]
end Go.Pev
namespace Go.Pev
def ax {α:Type} (m:Option α) (Q:α->Prop):Prop:=∃x,m=some x/\Q x
namespace ax
variable {α β:Type} {k:Nat} {Q R:α->Prop}
def ret {x:α} (h:Q x):ax (some x) Q:=⟨x,rfl,h⟩
def mono {m:Option α} (h:ax m Q) (a:∀x,Q x->R x):ax m R:=by
 obtain⟨x,e,b⟩:=h;exact⟨x,e,a x b⟩
def bd {m:Option β} {f:β->Option α} {P:β->Prop} (h:ax m P) (a:∀x,P x->ax (f x) Q):ax (bd k m f) Q:=by
 obtain⟨x,e,b⟩:=h;rw[e,aa];exact a x b
def bind {m:Option β} {f:β->Option α} {P:β->Prop} (h:ax m P) (a:∀x,P x->ax (f x) Q):ax (m.bind f) Q:=by
 obtain⟨x,e,b⟩:=h;rw[e];exact a x b
def br {c:Bool} {x y:Option α} (a:c=true->ax x Q) (b:c=false->ax y Q):ax (br k c x y) Q:=by
 cases c with
 |true=>rw[ai];exact a rfl
 |false=>rw[ah];exact b rfl
def dec {c:Prop} [Decidable c] {x y:Option α} (a:c->ax x Q) (b:¬c->ax y Q):ax (Go.Pev.br k (decide c) x y) Q:=by
 rw[an];by_cases h:c
 ·rw[a0b h];exact a h
 ·rw[a0e h];exact b h
def chk {c:Prop} [Decidable c] {x:Option α} (h:c) (a:ax x Q):ax (Go.Pev.br k (decide c) x none) Q:=dec (λ_=>a) λn=>absurd h n
def get {l:List β} {i:Nat} {f:β->Option α} (hi:i<l.length) (a:∀x,x∈l->l[i]?=some x->ax (f x) Q):ax (Go.Pev.bd k l[i]? f) Q:=by
 rw[a0a hi,aa];exact a _ (a0l _) (a0a hi)
def jn {f:β->Option α} {y:β} (h:ax (f y) Q):ax (Go.Pev.jn k f y) Q:=by
 rw[fL];exact h
def loop {A:Type} {b:(A->Option α)->A->Option α} (J:A->Prop) (μ:A->Nat) (h:∀G x,J x->(∀y,J y->μ y<μ x->ax (G y) Q)->ax (b G x) Q):∀(f:Nat) (x:A),J x->μ x<f->ax (aP b f x) Q
 |0,x,_,hf=>absurd hf (Nat.not_lt_zero _)
 |f+1,x,hx,hf=>by
  rw[az];exact h _ x hx λy a c=>loop J μ h f y a (by omega)
end ax
def lv (z:Int): -9223372036854775808<=wrap .i64 z/\wrap .i64 z<=9223372036854775807:=by
 simp[wrap,IntKind.bits,IntKind.signed];omega
def j0 {α:Type} (l:List α) (a n:Nat):(aO l a n).length<=n/\(aO l a n).length<=l.length:=by
 simp only[aO,a1m,a2w];omega
def lW {α:Type} {l:List α} {a n:Nat} {x:α} (h:x∈aO l a n):x∈l:=a7a (a4g h)
end Go.Pev
namespace Go.Pev.F
variable {k i:Nat} {a op b leaf v x al t:Int} {α:Type} {l K K' st p r:List Int} {want:Bool}
def ar (n:Int):Prop:= -9223372036854775808<=n/\n<=9223372036854775807
def cN (n:Int):Int×Int:=if n< -9223372036854775808 then(0,-1)else if 9223372036854775807<n then(0,1)else(n,0)
def du (a b:Int):Int×Int:=if b=0 then(0,0)else cN (a.tdiv b)
def pQ (a b:Int):Int:=if b=0 then 0 else a.tmod b
def gr (n:Int):ar (cN n).1:=by
 unfold cN ar;split
 ·simp
 ·split
  ·simp
  ·simp only;omega
def CB (k:Nat) (b:Bool):Mu k (b,())=some ((cond b (-1) 1,()),((),())):=by
 unfold Mu
 cases b<;>simp
def GL (k:Nat) (f:ar a) (g:ar b):D6 k (a,b,())=some (((cN (a+b)).1,(cN (a+b)).2,()),((),(),())):=by
 obtain⟨h,a1⟩:=f;obtain⟨i,j⟩:=g;unfold D6 cN;simp only[an];by_cases e:b>0
 ·have d:¬b<0:=by omega
  rw[a0b e,a0e d,ak (n:=9223372036854775807-b) (by omega) (by omega)];simp only[a0d,an];by_cases c:a>9223372036854775807-b
  ·rw[a0b c,ifNegQ,ifPosQ]
  ·rw[a0e c,ifNegQ,ifNegQ,ah,ak (n:=a+b) (by omega) (by omega)]
 ·rw[a0e e]
  simp only[a0d,ah];by_cases d:b<0
  ·rw[a0b d,ak (n:= -9223372036854775808-b) (by omega) (by omega)]
   simp only[a0d,an];by_cases c:a< -9223372036854775808-b
   ·rw[a0b c,ifPosQ]
   ·rw[a0e c,ifNegQ,ifNegQ,ak (n:=a+b) (by omega) (by omega)]
  ·rw[a0e d]
   simp only[a0d,ah];rw[ifNegQ,ifNegQ,ak (n:=a+b) (by omega) (by omega)]
def xF (k:Nat) (f:ar a) (g:ar b):Cr k (a,b,())=some (((cN (a+b)).1,(cN (a+b)).2,()),((),(),())):=by
 obtain⟨h,a1⟩:=f;obtain⟨i,j⟩:=g;unfold Cr cN;simp only[an,CB,aa];by_cases e:b>0
 ·have c:¬b<0:=by omega
  rw[a0b e,a0e c,ak (n:=9223372036854775807-b) (by omega) (by omega)];simp only[a0n c];by_cases d:a>9223372036854775807-b
  ·rw[a0b d,ifNegQ,ifPosQ];simp
  ·rw[a0e d,ifNegQ,ifNegQ]
   simp only[a0d,ah];rw[ak (n:=a+b) (by omega) (by omega)]
 ·rw[a0e e]
  by_cases c:b<0
  ·rw[a0b c,ak (n:= -9223372036854775808-b) (by omega) (by omega)]
   simp only[a0d,an,a0f c];by_cases d:a< -9223372036854775808-b
   ·rw[a0b d,ifPosQ];simp
   ·rw[a0e d,ifNegQ,ifNegQ,ak (n:=a+b) (by omega) (by omega)]
  ·rw[a0e c]
   simp only[a0d,ah];rw[ifNegQ,ifNegQ,ak (n:=a+b) (by omega) (by omega)]
def xG (k:Nat) (f:ar a) (g:ar b):Od k (a,b,())=some (((cN (a-b)).1,(cN (a-b)).2,()),((),(),())):=by
 obtain⟨h,a1⟩:=f;obtain⟨i,j⟩:=g;unfold Od cN;simp only[an];by_cases e:b<0
 ·have d:¬b>0:=by omega
  rw[a0b e,a0e d,ak (n:=9223372036854775807+b) (by omega) (by omega)];simp only[a0d,an];by_cases c:a>9223372036854775807+b
  ·rw[a0b c,ifNegQ,ifPosQ]
  ·rw[a0e c,ifNegQ,ifNegQ,ah,ak (n:=a-b) (by omega) (by omega)]
 ·rw[a0e e]
  simp only[a0d,ah];by_cases d:b>0
  ·rw[a0b d,ak (n:= -9223372036854775808+b) (by omega) (by omega)]
   simp only[a0d,an];by_cases c:a< -9223372036854775808+b
   ·rw[a0b c,ifPosQ]
   ·rw[a0e c,ifNegQ,ifNegQ,ak (n:=a-b) (by omega) (by omega)]
  ·rw[a0e d]
   simp only[a0d,ah];rw[ifNegQ,ifNegQ,ak (n:=a-b) (by omega) (by omega)]
def qJ (k:Nat) (f:ar a) (g:ar b):Mv k (a,b,())=some (((cN (a-b)).1,(cN (a-b)).2,()),((),(),())):=by
 obtain⟨h,a1⟩:=f;obtain⟨i,j⟩:=g;unfold Mv cN;simp only[an,CB,aa];by_cases e:b<0
 ·have c:¬b>0:=by omega
  rw[a0b e,a0e c,ak (n:=9223372036854775807+b) (by omega) (by omega)];simp only[a0n c];by_cases d:a>9223372036854775807+b
  ·rw[a0b d,ifNegQ,ifPosQ];simp
  ·rw[a0e d,ifNegQ,ifNegQ]
   simp only[a0d,ah];rw[ak (n:=a-b) (by omega) (by omega)]
 ·rw[a0e e]
  by_cases c:b>0
  ·rw[a0b c,ak (n:= -9223372036854775808+b) (by omega) (by omega)]
   simp only[a0d,an,a0f c];by_cases d:a< -9223372036854775808+b
   ·rw[a0b d,ifPosQ];simp
   ·rw[a0e d,ifNegQ,ifNegQ,ak (n:=a-b) (by omega) (by omega)]
  ·rw[a0e c]
   simp only[a0d,ah];rw[ifNegQ,ifNegQ,ak (n:=a-b) (by omega) (by omega)]
def cK (a:Int):Int:=if a<0 then-a else a
def pt (a:Int):0<=cK a:=by unfold cK;split<;>omega
def H8 (h:ar a):cK a<=9223372036854775808:=by
 obtain⟨b,c⟩:=h;unfold cK;split<;>omega
def xH (k:Nat) (h:ar a):Gn k (a,())=some ((cK a,()),((),())):=by
 obtain⟨c,d⟩:=h;unfold Gn cK;simp only[an];by_cases b:a<0
 ·rw[a0b b,a0b b,rS c b]
  have:wrap .u64 (0-(a+18446744073709551616))= -a:=by
   rw[IntKind.wrap_u64];omega
  rw[this]
 ·rw[a0e b,a0e b,gM]
def mQ (k:Nat) (h:ar a):zF k (a,())=some ((cK a,()),((),())):=by
 obtain⟨c,d⟩:=h;unfold zF cK;simp only[an];by_cases b:a<0
 ·rw[a0b b,a0b b,rS c b]
  have:wrap .u64 (0-(a+18446744073709551616))= -a:=by
   rw[IntKind.wrap_u64];omega
  rw[this]
 ·rw[a0e b,a0e b,gM]
def vH (a b:Int):a*b=if(decide (a<0)==decide (b<0))=true then cK a*cK b else-(cK a*cK b):=by
 unfold cK;by_cases c:a<0<;>by_cases d:b<0<;>simp[c,d,Int.neg_mul,Int.mul_neg]
def GN (k:Nat) (t:ar a) (u:ar b):D7 k (a,b,())=some (((cN (a*b)).1,(cN (a*b)).2,()),((),(),())):=by
 unfold D7;by_cases g:a=0
 ·subst g
  simp[cN]
 have o:(a==0)=false:=by simpa using g
 by_cases q:b=0
 ·subst q
  simp[cN,o]
 have v:(b==0)=false:=by simpa using q
 simp only[o,v,ah,a0d,xH k t,xH k u,aa];have z:0<cK a:=by unfold cK;split<;>omega
 have w:0<cK b:=by unfold cK;split<;>omega
 have x:(!decide (cK b=0))=true:=by
  have:¬cK b=0:=by omega
  rw[a0n this];rfl
 have d:=vH a b;have f:∀M:Int,0<=M->M<=9223372036854775808->(cK a>wrap .u64 (M.tdiv (cK b))↔M<cK a*cK b):=by
  intro M i g;rw[a5u i];have y:0<=M/cK b:=a8x i (by omega);have A:M/cK b<=M:=Int.ediv_le_self _ i;rw[gM y];exact Int.ediv_lt_iff_lt_mul w
 have j:=f 9223372036854775808 (by omega) (by omega);have l:=f 9223372036854775807 (by omega) (by omega);rw[x];simp only[ai,an]
 generalize cK a*cK b=p at d j l
 generalize r:(decide (a<0)==decide (b<0))=s at d⊢
 rw[d]
 cases s with
 |true=>
  simp only[a0t,ah,a1s];have B:0<p\/p<=0:=by omega
  by_cases c:cK a>wrap .u64 ((9223372036854775807:Int).tdiv (cK b))
  ·have:=l.1 c
   simp only[a0b c,a0d,ah,cN];rw[ifNegQ,ifPosQ]
  ·have:=λh=>c (l.2 h)
   have m:0<=p:=by
    have:=a9e (pt a) (pt b);have e:=vH a b;rw[r,a0b rfl]at e;rw[<-d.symm.trans e]at this;simpa using this
   simp only[a0e c,a0d,ah,cN];rw[ifNegQ,ifNegQ,ak (n:=p) (by omega) (by omega)]
 |false=>
  have m:0<=p:=by
   have:=a9e (pt a) (pt b);have e:=vH a b;rw[r,a0e (by simp)]at e;rw[a0e (by simp)]at d;omega
  simp only[a0y,ai,a0u,a1z];by_cases c:cK a>wrap .u64 ((9223372036854775808:Int).tdiv (cK b))
  ·have:=j.1 c
   simp only[a0b c,a0d,ai,cN];rw[ifPosQ]
  ·have:=λh=>c (j.2 h)
   simp only[a0e c,a0d,ah,cN];rw[ifNegQ,ifNegQ,ak (n:= -p) (by omega) (by omega)]
def xJ (k:Nat) (u:ar a) (v:ar b):Cs k (a,b,())=some (((cN (a*b)).1,(cN (a*b)).2,()),((),(),())):=by
 have w:=pt a;have x:=H8 u;have i:=pt b;have y:=H8 v;have j:=vH a b;have l:0<=cK a*cK b:=a9e w i;have m:cK a*cK b<=9223372036854775808*9223372036854775808:=Int.mul_le_mul x y i (by omega);have d:Lb.Mul64 k (cK a,cK b,())=some ((cK a*cK b/18446744073709551616,cK a*cK b % 18446744073709551616,()),((),(),())):=by
  simp only[Lb.Mul64];rw[a0b ⟨⟨w,by omega⟩,i,by omega⟩]
 unfold Cs;simp only[mQ k u,mQ k v,aa,d,CB]
 generalize cK a*cK b=p at j l m
 generalize (decide (a<0)==decide (b<0))=s at j
 rw[j];have z:wrap .u64 ((9223372036854775807:Int)+1)=9223372036854775808:=by rw[gM];rfl
 rw[z];have f:=Int.mul_ediv_add_emod p 18446744073709551616;have o:=Int.emod_nonneg p (show(18446744073709551616:Int)≠0 by omega);have t:=Int.emod_lt_of_pos p (show(0:Int)<18446744073709551616 by omega)
 generalize p/18446744073709551616=q at f
 generalize p % 18446744073709551616=r at f o t
 simp only[an]
 cases s with
 |true=>
  simp only[a0t,ah,a1s,cN,a2p];by_cases g:q>0
  ·simp only[a0b g,a0d,ai]
   rw[ifNegQ,ifPosQ]
  ·simp only[a0e g,a0d,an]
   have c:q=0:=by omega
   subst c;by_cases h:r>9223372036854775807
   ·rw[a0b h,ifNegQ,ifPosQ]
   ·rw[a0e h,ifNegQ,ifNegQ,ak (n:=r) (by omega) (by omega)]
    have:r=p:=by omega
    rw[this]
 |false=>
  simp only[a0y,ai,a0u,a1z,cN,a1r];by_cases g:q>0
  ·simp only[a0b g,a0d,ai]
   rw[ifPosQ]
  ·simp only[a0e g,a0d,an]
   have c:q=0:=by omega
   subst c;by_cases h:r>9223372036854775808
   ·rw[a0b h,ifPosQ]
   ·rw[a0e h,ifNegQ,ifNegQ]
    have e:wrap .i64 (wrap .u64 (0-r))= -p:=by
     have:r=p:=by omega
     subst this;rw[IntKind.wrap_u64,IntKind.wrap_i64];omega
    rw[e]
def tj (d:ar a) (g:b≠0) (i:¬b= -1):ar (a.tdiv b):=by
 obtain⟨j,a1⟩:=d;have h:=Int.natAbs_tdiv_le_natAbs a b;by_cases f:a= -9223372036854775808
 ·subst f
  have c:2<=b.natAbs\/b=1:=by omega
  rcases c with c|rfl
  ·have e:((-9223372036854775808:Int).tdiv b).natAbs=(9223372036854775808:Nat)/b.natAbs:=by
    rw[Int.natAbs_tdiv];rfl
   have:(9223372036854775808:Nat)/b.natAbs<=4611686018427387904:=by
    calc (9223372036854775808:Nat)/b.natAbs<=9223372036854775808/2:=Nat.div_le_div_left c (by omega)
     _=4611686018427387904:=rfl
   unfold ar;omega
  ·rw[a9m];unfold ar;omega
 ·unfold ar;omega
def xK (k:Nat) (e:ar a):zG k (a,b,())=some (((du a b).1,(du a b).2,()),((),(),())):=by
 unfold zG du;by_cases c:b=0
 ·subst c;simp
 have j:(b==0)=false:=by simpa using c
 have l:(!decide (b=0))=true:=by rw[a0n c];rfl
 dsimp only;rw[j,ah,a0e c,l,ai];by_cases f:a= -9223372036854775808
 ·have g:(a== -9223372036854775808)=true:=by simpa using f
  rw[g,ai];simp only[a0d];by_cases d:b= -1
  ·subst d;subst f
   rw[show((-1:Int)== -1)=true from rfl,ai];rfl
  ·have m:(b== -1)=false:=by simpa using d
   obtain⟨h,i⟩:=tj e c d;rw[m,ah,ak h i,cN,ifNegQ,ifNegQ]
 ·have g:(a== -9223372036854775808)=false:=by simpa using f
  rw[g,ah];simp only[a0d,ah];have n:ar (a.tdiv b):=by
   by_cases d:b= -1
   ·subst d
    obtain⟨o,a1⟩:=e;have:a.tdiv (-1)= -a:=by rw[a7m,a9m]
    rw[this];unfold ar;omega
   ·exact tj e c d
  obtain⟨h,i⟩:=n;rw[ak h i,cN,ifNegQ,ifNegQ]
def xL (k:Nat) (f:ar a):Cl k (a,b,())=some (((du a b).1,(du a b).2,()),((),(),())):=by
 unfold Cl du;by_cases c:b=0
 ·subst c;simp
 have g:(b==0)=false:=by simpa using c
 have h:(!decide (b=0))=true:=by rw[a0n c];rfl
 dsimp only;rw[g,ah,a0e c,h,ai];by_cases d:b= -1
 ·subst d
  have e:((-1:Int)== -1)=true:=rfl;have i:a.tdiv (-1)=0-a:=by rw[a7m,a9m];omega
  rw[e,ai,xG k (a:=0) ⟨by omega,by omega⟩ f,aa,i]
 ·have e:(b== -1)=false:=by simpa using d
  obtain⟨j,l⟩:=tj f c d;rw[e,ah,ak j l,cN,ifNegQ,ifNegQ]
def H9 (a:Int):a.tmod (-1)=0:=by rw[Int.tmod_neg,Int.tmod_one]
def GO (k:Nat) (a b:Int):Gp k (a,b,())=some ((pQ a b,()),((),(),())):=by
 unfold Gp pQ;by_cases c:b=0
 ·subst c;simp
 have e:(b==0)=false:=by simpa using c
 have f:(!decide (b=0))=true:=by rw[a0n c];rfl
 dsimp only;rw[e,ah,a0e c,f,ai];simp only[a0d];by_cases d:b= -1
 ·subst d;rw[H9];simp[ai]
 ·have g:(b== -1)=false:=by simpa using d
  rw[g,ah]
def xM (k:Nat) (a b:Int):Ct k (a,b,())=some ((pQ a b,()),((),(),())):=by
 unfold Ct pQ;by_cases c:b=0
 ·subst c;simp
 have e:(b==0)=false:=by simpa using c
 have f:(!decide (b=0))=true:=by rw[a0n c];rfl
 dsimp only;rw[e,ah,a0e c,f,ai];simp only[a0d];by_cases d:b= -1
 ·subst d;rw[H9];simp[ai]
 ·have g:(b== -1)=false:=by simpa using d
  rw[g,ah]
def tl (c:ar a):ar (pQ a b):=by
 obtain⟨f,a1⟩:=c;unfold pQ ar;split
 ·omega
 ·have g:(a.tmod b).natAbs<=a.natAbs:=by rw[a8y];exact Nat.mod_le _ _
  by_cases d:0<=a
  ·have e:=a7e b d
   omega
  ·have e:a.tmod b= -((-a).tmod b):=by rw[Int.neg_tmod];omega
   have h:=a7e b (show 0<= -a by omega);omega
abbrev dM:=List (List UInt8)
abbrev kF:=List UInt8×Int×Unit
abbrev aw:=dM×dM×List kF×Unit
abbrev bA:=Int×Int×Unit
abbrev bh:=Bool×List bA×List bA×Unit
def Er (n:Int):Prop:= -9223372036854775808<=n/\n<=9223372036854775807
structure eL (d:aw):Prop where
 n0:d.1.length<=1048576
 s0:∀x∈d.1,x.length<=1048576
 n1:d.2.1.length<=1048576
 s1:∀x∈d.2.1,x.length<=1048576
 n2:d.2.2.1.length<=1048576
 s2:∀x∈d.2.2.1,x.1.length<=1048576
def keys:dM:=[[118,97,114],[102,108,97,103],[97,114,114,97,121],[105,102],[102,111,114,107],[101,108,115,101],[101,110,100],[119,104,105,108,101],[117,110,114,111,108,108],[97,115,115,101,114,116],[97,115,115,117,109,101],[105,110,112,117,116],[115,112,108,105,116],[109,101,114,103,101],[116,114,117,101],[102,97,108,115,101]]
def eM (b:UInt8):Bool:=decide (97<=b.toNat/\b.toNat<=122)
def qK (s:List UInt8):Bool:=s.all eM&& (decide (1<=s.length/\s.length<=8)&& !keys.contains s)
def ML (k:Nat) (d:1048576<k) (s:List UInt8):xb k (s,())=some ((keys.contains s,()),((),())):=by
 have h:=lV (b:=xb.l0 k) (λi=>(s,keys,(i:Int),())) keys (λx=>x==s) (rf:=some ((true,()),((),()))) (r:=some ((false,()),((),()))) (λG i hi=>by
  have a:((i:Int)<(keys.length:Int)):=by omega
  have c:(0:Int)<=(i:Int)/\((i:Int)<(keys.length:Int)):=by omega
  have e:keys.length=16:=rfl;simp only[xb.l0,an,a0b a,a0b c,a0j,a0a hi,aa];rw[aH]
  cases h:(keys[i]==s)<;>simp) (λG=>by
  have a:¬((keys.length:Int)<(keys.length:Int)):=by omega
  simp only[xb.l0,an,a0e a]) (f:=k) (by show 16<k;omega)
 unfold xb;refine Eq.trans h ?_
 rw[a9k]
 cases keys.contains s<;>rfl
def J3 (k:Nat) (g:1048576<k) (s:List UInt8) (l:s.length<=1048576):xc k (s,())=some ((qK s,()),((),())):=by
 have h:=lV (b:=xc.l0 k) (λi=>(s,(i:Int),())) s (λb=> !eM b) (rf:=some ((false,()),((),()))) (r:=some ((decide (1<=s.length/\s.length<=8)&& !keys.contains s,()),((),()))) (λG i hi=>by
  have d:((i:Int)<(s.length:Int)):=by omega
  have j:(0:Int)<=(i:Int):=by omega
  simp only[xc.l0,an,a0b d,a0b j,a0j,a0a hi,aa];rw[aH];by_cases c1:((s[i].toNat:Int)<97)
  ·have:eM s[i]=false:=by simp[eM];omega
   simp[a0b c1,this]
  ·rw[a0e c1]
   by_cases c2:((s[i].toNat:Int)>122)
   ·have:eM s[i]=false:=by simp[eM];omega
    have a:decide ((s[i].toNat:Int)>122)=true:=a0f c2;simp only[a0d,a,ai,this,a0y,a1s]
   ·have:eM s[i]=true:=by simp[eM];omega
    have a:decide ((s[i].toNat:Int)>122)=false:=a0n c2;simp only[a0d,a,ah,this,a0t,a0u,a1z]) (λG=>by
  have d:¬((s.length:Int)<(s.length:Int)):=by omega
  simp only[xc.l0,an,a0e d,jV,ML k g,aa];by_cases c:1<=s.length/\s.length<=8
  ·have e:(1:Int)<=(s.length:Int)/\(s.length:Int)<=8:=by omega
   simp only[a0b e,a0d,a0f c,a2d]
  ·have e:¬((1:Int)<=(s.length:Int)/\(s.length:Int)<=8):=by omega
   simp only[a0e e,a0d,a0n c,a5y]) (f:=k)
 unfold xc;refine Eq.trans h ?_
 unfold qK;rw[show s.any (λb=> !eM b)= !s.all eM by rw[a6k]]
 cases s.all eM<;>simp
def GP (k:Nat) (l:dM) (v:List UInt8) (e:l.length<=4194304) (g:4194304<k):∃n:Int,zA k (l,v,())=some ((n,()),((),(),()))/\decide (n>=0)=l.contains v:=by
 obtain⟨n,c,a⟩:=fD (b:=zA.l0 k) (λi=>(l,v,(i:Int),())) l (λx=>x==v) (o:=((),(),())) (λG i hi=>by
  have a:((i:Int)<(l.length:Int)):=by omega
  have d:(0:Int)<=(i:Int):=by omega
  simp only[zA.l0,an,a0b a,a0b d,a0j,a0a hi,aa];rw[aH]
  cases h:(l[i]==v)<;>simp) (λG=>by
  have a:¬((l.length:Int)<(l.length:Int)):=by omega
  simp only[zA.l0,an,a0e a]) (f:=k)
 refine⟨n,c,?_⟩;rw[a,a9k]
def lf (k:Nat) (l:dM) (v:List UInt8) (g:l.length<=4194304) (j:4194304<k):D9 k (l,v,())=some ((l.contains v,()),((),(),())):=by
 obtain⟨n,d,a⟩:=fD (b:=xf.l0 k) (λi=>(l,v,(l.length:Int),(i:Int),())) l (λx=>x==v) (o:=((),(),())) (λG i hi=>by
  have a:((i:Int)<(l.length:Int)):=by omega
  have e:(0:Int)<=(i:Int):=by omega
  simp only[xf.l0,an,a0b a,a0b e,a0j,a0a hi,aa];rw[aH,show(v==l[i])=(l[i]==v)from BEq.comm]
  cases h:(l[i]==v)<;>simp) (λG=>by
  have a:¬((l.length:Int)<(l.length:Int)):=by omega
  simp only[xf.l0,an,a0e a]) (f:=k)
 unfold D9 xf;have c:aP (xf.l0 k) k (l,v,(l.length:Int),0,())=some ((n,()),((),(),())):=d;simp only[c,aa];rw[a,a9k]
def J4 (k:Nat) (a:4194304<k) (s:List UInt8):Js k (s,())=some ((keys.contains s,()),((),())):=by
 unfold Js;have h:Lb.Fields k ([118,97,114,32,102,108,97,103,32,97,114,114,97,121,32,105,102,32,102,111,114,107,32,101,108,115,101,32,101,110,100,32,119,104,105,108,101,32,117,110,114,111,108,108,32,97,115,115,101,114,116,32,97,115,115,117,109,101,32,105,110,112,117,116,32,115,112,108,105,116,32,109,101,114,103,101,32,116,114,117,101,32,102,97,108,115,101],())=some ((keys,()),((),())):=by
  unfold Lb.Fields;rw[a0b (by decide+kernel)];have:Go.Lib.fields [118,97,114,32,102,108,97,103,32,97,114,114,97,121,32,105,102,32,102,111,114,107,32,101,108,115,101,32,101,110,100,32,119,104,105,108,101,32,117,110,114,111,108,108,32,97,115,115,101,114,116,32,97,115,115,117,109,101,32,105,110,112,117,116,32,115,112,108,105,116,32,109,101,114,103,101,32,116,114,117,101,32,102,97,108,115,101]=keys:=by decide+kernel
  rw[this]
 simp only[h,aa];rw[lf k keys s (by decide) a];simp
def J5 (k:Nat) (g:4194304<k) (s:List UInt8) (l:s.length<=1048576):xg k (s,())=some ((qK s,()),((),())):=by
 have h:=lV (b:=xg.l0 k) (λi=>(s,(s.length:Int),(i:Int),())) s (λb=> !eM b) (rf:=some ((false,()),((),()))) (r:=some ((decide (1<=s.length/\s.length<=8)&& !keys.contains s,()),((),()))) (λG i hi=>by
  have d:((i:Int)<(s.length:Int)):=by omega
  have j:(0:Int)<=(i:Int):=by omega
  simp only[xg.l0,Mk,an,a0b d,a0b j,a0j,a0a hi,aa];rw[aH];by_cases c1:((s[i].toNat:Int)>=97)
  ·rw[a0b c1]
   by_cases c2:((s[i].toNat:Int)<=122)
   ·have:eM s[i]=true:=by simp[eM];omega
    have a:decide ((s[i].toNat:Int)<=122)=true:=a0f c2;simp only[a0d,a,aa,ah,this,a0t,a0u,a1z]
   ·have:eM s[i]=false:=by simp[eM];omega
    have a:decide ((s[i].toNat:Int)<=122)=false:=a0n c2;simp only[a0d,a,aa,ai,this,a0y,a1s]
  ·rw[a0e c1]
   have:eM s[i]=false:=by simp[eM];omega
   simp only[a0d,aa,ai,this,a0y,a1s]) (λG=>by
  have d:¬((s.length:Int)<(s.length:Int)):=by omega
  simp only[xg.l0,an,a0e d,cI,J4 k g,aa];by_cases c:1<=s.length/\s.length<=8
  ·have e:(1:Int)<=(s.length:Int)/\(s.length:Int)<=8:=by omega
   simp only[a0b e,a0d,a0f c,a2d]
  ·have e:¬((1:Int)<=(s.length:Int)/\(s.length:Int)<=8):=by omega
   simp only[a0e e,a0d,a0n c,a5y]) (f:=k)
 unfold xg;refine Eq.trans h ?_
 unfold qK;rw[show s.any (λb=> !eM b)= !s.all eM by rw[a6k]]
 cases s.all eM<;>simp
def xN (l:dM) (i:Nat):Bool:= !qK (l.getD i [])||(l.take i).contains (l.getD i [])
def rT (l:dM):Bool:= !(List.range l.length).any (xN l)
def qL (l:List kF):Bool:= !l.any λa=> !decide (1<=a.2.1/\a.2.1<=16)
def cB (d:aw):dM:=(d.1++d.2.1)++d.2.2.1.map (·.1)
def aY (d:aw):Bool:=decide (d.1.length<=5/\d.2.1.length<=3/\d.2.2.1.length<=2)&& (qL d.2.2.1&& rT (cB d))
def p9 {d:aw} (a:eL d):(cB d).length<=3145728/\∀x∈cB d,x.length<=1048576:=by
 have b:=a.n0;have c:=a.n1;have e:=a.n2;refine⟨by simp[cB];omega,λx hx=> ?_⟩;simp only[cB,a0k,a2y]at hx;rcases hx with(hx|hx)|⟨y,hy,rfl⟩
 ·exact a.s0 x hx
 ·exact a.s1 x hx
 ·exact a.s2 y hy
def J6 (k:Nat) (c:4194304<k) (l:dM) (q:l.length<=3145728) (d:∀x∈l,x.length<=1048576):aP (yT.l2 k) k (l,0,())=some ((rT l,()),((),())):=by
 have h:=xD (b:=yT.l2 k) (λi=>(l,(i:Int),())) l.length (xN l) (rf:=some ((false,()),((),()))) (r:=some ((true,()),((),()))) (λG i hi=>by
  have a:((i:Int)<(l.length:Int)):=by omega
  have g:(0:Int)<=(i:Int)/\(i:Int)<(l.length:Int):=by omega
  have j:(0:Int)<=(i:Int)/\(i:Int)<=(l.length:Int):=by omega
  have e:aO l ((0:Int).toNat) (i-(0:Int).toNat)=l.take i:=by simp[aO]
  obtain⟨n,m,o⟩:=GP k (l.take i) l[i] (by simp;omega) c;have p:l.getD i []=l[i]:=by simp[List.getD,a0a hi]
  simp only[yT.l2,an,a0b a,a0b g,a0b j,a0j,a0a hi,aa,J3 k (by omega) l[i] (d _ (a0l _)),e,m,o];rw[aH,xN,p]
  cases qK l[i]<;>cases (l.take i).contains l[i]<;>simp) (λG=>by
  have a:¬((l.length:Int)<(l.length:Int)):=by omega
  simp only[yT.l2,an,a0e a]) (f:=k)
 refine Eq.trans h ?_
 unfold rT
 cases (List.range l.length).any (xN l)<;>rfl
def lw (k:Nat) (j:4194304<k) (d:aw) (l:eL d):yT k (d,())=some ((aY d,()),((),())):=by
 unfold yT aY;simp only[an];by_cases g:(d.1.length:Int)>5
 ·rw[a0b g]
  have:decide (d.1.length<=5/\d.2.1.length<=3/\d.2.2.1.length<=2)=false:=by simp;omega
  simp[this]
 rw[a0e g];by_cases c1:(d.2.1.length:Int)>3
 ·rw[a0b c1]
  have:decide (d.1.length<=5/\d.2.1.length<=3/\d.2.2.1.length<=2)=false:=by simp;omega
  simp[this]
 rw[a0e c1];by_cases c2:(d.2.2.1.length:Int)>2
 ·have:decide (d.1.length<=5/\d.2.1.length<=3/\d.2.2.1.length<=2)=false:=by simp;omega
  have c:decide ((d.2.2.1.length:Int)>2)=true:=a0f c2;simp only[a0d,c,ai,this,a5y]
 have c:decide ((d.2.2.1.length:Int)>2)=false:=a0n c2;have m:decide (d.1.length<=5/\d.2.1.length<=3/\d.2.2.1.length<=2)=true:=by simp;omega
 simp only[a0d,c,ah,m,a2d];have l1:(([]:List (List UInt8)).length+d.1.length)*16<=af:=by simp[af];omega
 have l2:((([]:List (List UInt8))++d.1).length+d.2.1.length)*16<=af:=by simp[af];omega
 rw[a0b l1,a0b l2];obtain⟨n,o⟩:=p9 l;have h:=lV (b:=yT.l0 k) (λi=>((d.1,d.2.1,d.2.2.1,()),((([]:List (List UInt8))++d.1)++d.2.1)++(d.2.2.1.take i).map (·.1),(i:Int),())) d.2.2.1 (λa=> !decide (1<=a.2.1/\a.2.1<=16)) (rf:=some ((false,()),((),()))) (r:=some ((rT (cB d),()),((),()))) (λG i hi=>by
  have e:((i:Int)<(d.2.2.1.length:Int)):=by omega
  have p:(0:Int)<=(i:Int):=by omega
  have q:(((([]:List (List UInt8))++d.1)++d.2.1++(d.2.2.1.take i).map (·.1)).length+([d.2.2.1[i].1]:List (List UInt8)).length)*16<=af:=by simp[af];omega
  simp only[yT.l0,an,a0b e,a0b p,a0j,a0a hi,aa,jV,a0b q];rw[aH,<-a2v hi,a3d,a1q (bs:=List.map _ _)]
  cases decide (1<=d.2.2.1[i].2.1/\d.2.2.1[i].2.1<=16)<;>simp) (λG=>by
  have e:¬((d.2.2.1.length:Int)<(d.2.2.1.length:Int)):=by omega
  simp only[yT.l0,an,a0e e,a2a];exact J6 k j (cB d) n o) (f:=k)
 simp only[List.take_zero,a3x,a2m]at h;refine Eq.trans h ?_
 unfold qL
 cases d.2.2.1.any (λa=> !decide (1<=a.2.1/\a.2.1<=16))<;>simp
def tm {l:List dM} (hi:i<l.length):(l.take (i+1)).flatten=(l.take i).flatten++l[i]:=by
 rw[<-a2v hi,a4m];simp
def Ia (l:List dM) (i:Nat):(l.take i).flatten.length<=l.flatten.length:=by
 conv=>rhs;rw[<-a3r i l,a4m,a0m]
 omega
def J7 (k:Nat) (l:List dM) (f:l.length<k) (m:k<=4611686018427387903) (n:l.flatten.length<=4194304):D8 k (l,())=some ((l.flatten,()),((),())):=by
 unfold D8;have a:aP (D8.l2 k) k ([],l,(l.length:Int),0,())=some ((l.flatten,()),((),())):=by
  have h:=ca (b:=D8.l2 k) (λi=>((l.take i).flatten,l,(l.length:Int),(i:Int),())) l.length (r:=some ((l.flatten,()),((),()))) (λG i hi=>by
   have a:((i:Int)<(l.length:Int)):=by omega
   have c:(0:Int)<=(i:Int):=by omega
   have g:=Ia l (i+1);rw[tm hi,a0m]at g;have d:((l.take i).flatten.length+l[i].length)*16<=af:=by simp only[af];omega
   simp only[D8.l2,an,a0b a,a0b c,a0j,a0a hi,aa,a0b d];rw[aH,tm hi]) (λG=>by
   have a:¬((l.length:Int)<(l.length:Int)):=by omega
   simp only[D8.l2,an,a0e a,a2a]) f
  exact h
 have h:=ca (b:=D8.l0 k) (λi=>(l,((l.take i).flatten.length:Int),l,(l.length:Int),(i:Int),())) l.length (r:=some ((l.flatten,()),((),()))) (λG i hi=>by
  have a:((i:Int)<(l.length:Int)):=by omega
  have c:(0:Int)<=(i:Int):=by omega
  have g:=Ia l (i+1);have j:(l.take (i+1)).flatten.length=(l.take i).flatten.length+l[i].length:=by rw[tm hi,a0m]
  have e:wrap .i64 (((l.take i).flatten.length:Int)+(l[i].length:Int))=((l.take (i+1)).flatten.length:Int):=by
   rw[ak (by omega) (by omega),j];omega
  have d:¬(((l.take (i+1)).flatten.length:Int)<0):=by omega
  simp only[D8.l0,an,a0b a,a0b c,a0j,a0a hi,aa,e,a0e d];rw[aH]) (λG=>by
  have c:¬((l.length:Int)<(l.length:Int)):=by omega
  have d:0<=(l.flatten.length:Int)/\(l.flatten.length:Int)*((16:Nat):Int)<=140737488355328:=by omega
  simp only[D8.l0,an,a0e c,a2a,Lb.slices_Grow_string_string,s8,a0b d,aa];exact a) f
 exact h
def MM (k:Nat) (n:4194304<k) (a:k<=4611686018427387903) (d:aw) (c:eL d):xe k (d,())=some ((cB d,()),((),())):=by
 have o:=c.n0;have p:=c.n1;have n2:=c.n2;have e:([d.1,d.2.1]:List dM).flatten=d.1++d.2.1:=by simp
 unfold xe;have j:=J7 k [d.1,d.2.1] (by show 2<k;omega) a (by rw[e];simp;omega);rw[e]at j;simp only[j,aa];have h:=ca (b:=xe.l0 k) (λi=>((d.1++d.2.1)++(d.2.2.1.take i).map (·.1),d.2.2.1,(d.2.2.1.length:Int),(i:Int),())) d.2.2.1.length (r:=some ((cB d,()),((),()))) (λG i hi=>by
  have g:((i:Int)<(d.2.2.1.length:Int)):=by omega
  have l:(0:Int)<=(i:Int):=by omega
  have m:((((d.1++d.2.1)++(d.2.2.1.take i).map (·.1)).length)+([d.2.2.1[i].1]:List (List UInt8)).length)*16<=af:=by simp[af];omega
  simp only[xe.l0,an,a0b g,a0b l,a0j,a0a hi,aa,a0b m];rw[aH,<-a2v hi,a3d,a1q (bs:=List.map _ _)];rfl) (λG=>by
  have g:¬((d.2.2.1.length:Int)<(d.2.2.1.length:Int)):=by omega
  simp only[xe.l0,an,a0e g,a2a];rfl) (f:=k) (by omega)
 simp only[List.take_zero,a3x,a2m]at h;exact h
def CC (k:Nat) (l:List kF) (h:l.length<=1048576) (j:4194304<k):Jt k (l,(()),())=some ((qL l,()),((),(()),())):=by
 obtain⟨n,e,c⟩:=fD (b:=xi.l0 k) (λi=>(l,(((()),()),()),(l.length:Int),(i:Int),())) l (λa=> !decide (1<=a.2.1/\a.2.1<=16)) (o:=((),(((()),()),()),())) (λG i hi=>by
  have c:((i:Int)<(l.length:Int)):=by omega
  have g:(0:Int)<=(i:Int):=by omega
  simp only[xi.l0,Mm,Ml,cI,an,a0b c,a0b g,a0j,a0a hi,aa];rw[aH]
  cases decide (1<=l[i].2.1/\l[i].2.1<=16)<;>simp) (λG=>by
  have c:¬((l.length:Int)<(l.length:Int)):=by omega
  simp only[xi.l0,an,a0e c]) (f:=k)
 unfold Jt Mn xi;have d:aP (xi.l0 k) k (l,(((()),()),()),(l.length:Int),0,())=some ((n,()),((),(((()),()),()),())):=e;simp only[d,aa,c];rfl
def zM (k:Nat) (a:4194304<k) (e:k<=4611686018427387903) (d:aw) (c:eL d):Lk k (d,())=some ((aY d,()),((),())):=by
 have n2:=c.n2;obtain⟨p,l⟩:=p9 c;unfold Lk;simp only[MM k a e d c,aa];have h:=xD (b:=Lk.l0 k) (λi=>((d.1,d.2.1,d.2.2.1,()),cB d,cB d,((cB d).length:Int),(i:Int),())) (cB d).length (xN (cB d)) (rf:=some ((false,()),((),()))) (r:=some ((decide (d.1.length<=5/\d.2.1.length<=3/\d.2.2.1.length<=2)&& qL d.2.2.1,()),((),()))) (λG i hi=>by
  have g:((i:Int)<((cB d).length:Int)):=by omega
  have m:(0:Int)<=(i:Int):=by omega
  have n:(0:Int)<=(i:Int)/\(i:Int)<=((cB d).length:Int):=by omega
  have o:(cB d).getD i []=(cB d)[i]:=by simp[List.getD,a0a hi]
  simp only[Lk.l0,an,a0b g,a0b m,a0b n,a0j,a0a hi,aa,J5 k a (cB d)[i] (l _ (a0l _)),lf k ((cB d).take i) (cB d)[i] (by simp;omega) a];rw[aH,xN,o]
  cases qK (cB d)[i]<;>cases ((cB d).take i).contains (cB d)[i]<;>simp) (λG=>by
  have g:¬(((cB d).length:Int)<((cB d).length:Int)):=by omega
  simp only[Lk.l0,an,a0e g,CC k d.2.2.1 c.n2 a,aa];by_cases j:d.1.length<=5
  ·rw[ifPosQ]
   by_cases c1:d.2.1.length<=3
   ·rw[ifPosQ]
    by_cases c2:d.2.2.1.length<=2
    ·rw[ifPosQ]
     simp[j,c1,c2]
    ·rw[ifNegQ]
     simp[c2]
   ·rw[ifNegQ]
    simp[c1]
  ·rw[ifNegQ]
   simp[j]) (f:=k)
 refine Eq.trans h ?_
 unfold aY rT
 cases (List.range (cB d).length).any (xN (cB d))<;>simp
structure lz (e:bh):Prop where
 n1:e.2.1.length<=1048576
 n2:e.2.2.1.length<=1048576
abbrev Qk:Kd:= .cons (.int .i64) (.cons (.int .i64) .nil)
abbrev Re:Kd:= .cons .bool (.cons (.sl false Qk) (.cons (.sl false Qk) .nil))
def bj (a:bA):Bool:=decide (a.1<=a.2.1)
def uD (l:List bA):Bool:= !l.any λa=> !bj a
def iw (d:aw) (e:bh):Bool:=cond e.1 (((e.2.1.length:Int)==(d.1.length:Int))&& (((e.2.2.1.length:Int)==(d.2.2.1.length:Int))&& (uD e.2.1&& uD e.2.2.1))) (((e.2.1.length:Int)==0)&& ((e.2.2.1.length:Int)==0))
def uE (k:Nat) (l:List bA) (h:l.length<=1048576) (j:4194304<k):GD k (l,(()),())=some ((uD l,()),((),(()),())):=by
 obtain⟨n,e,c⟩:=fD (b:=xr.l0 k) (λi=>(l,(((()),()),()),(l.length:Int),(i:Int),())) l (λa=> !bj a) (o:=((),(((()),()),()),())) (λG i hi=>by
  have c:((i:Int)<(l.length:Int)):=by omega
  have g:(0:Int)<=(i:Int):=by omega
  simp only[xr.l0,MD,MC,an,a0b c,a0b g,a0j,a0a hi,aa];rw[aH,bj]
  cases decide (l[i].1<=l[i].2.1)<;>simp) (λG=>by
  have c:¬((l.length:Int)<(l.length:Int)):=by omega
  simp only[xr.l0,an,a0e c]) (f:=k)
 unfold GD ME xr;have d:aP (xr.l0 k) k (l,(((()),()),()),(l.length:Int),0,())=some ((n,()),((),(((()),()),()),())):=e;simp only[d,aa,c];rfl
def MN (k:Nat) (a:4194304<k) (d:aw) (e:bh) (b:lz e):JG k (d,e,())=some ((iw d e,()),((),(),())):=by
 unfold JG iw
 cases he1:e.1 with
 |false=>
  simp only[he1,a0y,ai,a2p]
  cases hz:((e.2.1.length:Int)==0)<;>simp
 |true=>
  simp only[he1,a0t,ah,a1r]
  cases h1:((e.2.1.length:Int)==(d.1.length:Int))with
  |false=>simp
  |true=>
   cases h2:((e.2.2.1.length:Int)==(d.2.2.1.length:Int))with
   |false=>simp
   |true=>
    simp only[uE k _ b.n1 a,uE k _ b.n2 a,ai,aa]
    cases uD e.2.1<;>simp
abbrev gN:=Int×Int×Bool×Int×Unit
def co (a b:bA):Bool:=bj a&& bj b
def iO (a:bA) (n:Int):Bool:=decide (a.1<=n/\n<=a.2.1)
def AM (a b:bA):Bool:=co a b&& (decide (b.1<=a.1)&& decide (a.2.1<=b.2.1))
def jH (a b:bA):bA:=(if b.1<a.1 then b.1 else a.1,if b.2.1>a.2.1 then b.2.1 else a.2.1,())
def iz (a b:bA):bA:=(if b.1>a.1 then b.1 else a.1,if b.2.1<a.2.1 then b.2.1 else a.2.1,())
def mR (a b:bA):bA:=cond (co a b) (jH a b) (0,0,())
def dG (a b:bA):bA×Bool×Unit:=cond (co a b&& bj (iz a b)) (iz a b,true,()) ((0,0,()),false,())
def CD (l:List Int) (b:Int):Int:=l.foldl (λm x=>if x<=b then(if x>m then x else m)else m) (-9223372036854775808)
def CE (l:List Int) (b:Int):Int:=l.foldl (λm x=>if x>=b then(if x<m then x else m)else m) 9223372036854775807
def pu (a b:bA) (l:List Int):bA:=cond (co a b&& decide (l.length<=100)) (if b.1<a.1 then CD l b.1 else a.1,if b.2.1>a.2.1 then CE l b.2.1 else a.2.1,()) (0,0,())
def uF (k:Nat) (a:bA):MC k (a,())=some ((bj a,()),((),())):=rfl
def fE (k:Nat) (a b:bA):vG k (a,b,())=some ((co a b,()),((),(),())):=by
 simp only[vG,uF,aa,gZ,co]
 cases bj a<;>rfl
def mS (k:Nat) (a:bA) (n:Int):Ej k (a,n,())=some ((iO a n,()),((),(),())):=by
 simp only[Ej,cI,aa];rfl
def GQ (k:Nat) (a b:bA):JM k (a,b,())=some ((AM a b,()),((),(),())):=by
 simp only[JM,fE,aa,gZ,AM]
 cases co a b
 ·rfl
 ·cases decide (b.1<=a.1)<;>rfl
def uG (k:Nat) (a b:bA):Em k (a,b,())=some ((mR a b,()),((),(),())):=by
 simp only[Em,fE,aa,gZ,mR]
 cases co a b<;>rfl
def jw (k:Nat) (a b:bA):AH k (a,b,())=some (dG a b,((),(),())):=by
 simp only[AH,fE,aa,gZ,dG,uF];rw[show((if b.1>a.1 then b.1 else a.1,if b.2.1<a.2.1 then b.2.1 else a.2.1,()):bA)=iz a b from rfl]
 generalize bj (iz a b)=r
 generalize co a b=p
 generalize iz a b=c
 cases p<;>cases r<;>rfl
def kG {β:Type} (f:β->α->β) (z:β) (l:List α) (hi:i<l.length):(l.take (i+1)).foldl f z=f ((l.take i).foldl f z) l[i]:=by
 rw[a2n hi,a4a];rfl
def en (a b:Int):Int:=wrap .i64 (((BitVec.ofInt 64 a|||BitVec.ofInt 64 b).toNat:Int))
def pR:List Int->Int
 |[]=>0
 |x::r=>r.foldl (λm y=>if y<m then y else m) x
def qM:List Int->Int
 |[]=>0
 |x::r=>r.foldl (λm y=>if y>m then y else m) x
def J8 (l:List Int) (h:l.length*8<=af):Cx k (l,())=some ((l,()),((),())):=by
 simp only[Cx,a0h,a1l,a2j];rw[a0f h];simp only[ai]
 cases l with
 |nil=>simp[nq]
 |cons x r=>simp
def uH (l:List Int) (h:0<l.length) (c:l.length<4611686018427387904) (d:l.length<k):AI k (l,())=some ((pR l,()),((),())):=by
 cases l with
 |nil=>simp at h
 |cons x r=>
  simp only[AI];rw[a0n (show¬(((x::r).length:Nat):Int)<1 by simp;omega)];simp only[ah,a1d,a9h,ai,a4b,a1p,aa];have:=ca (b:=AI.l0 k) (λi=>(x::r,(r.take i).foldl (λm y=>if y<m then y else m) x,(((i+1:Nat):Int)),())) r.length (r:=some ((pR (x::r),()),((),()))) (λG i hi=> ?_) (λG=> ?_) (f:=k) (by simp at d;omega)
  ·simpa using this
  ·have a:i+1<(x::r).length:=by simp;omega
   simp only[a0g]at c;simp only[AI.l0];rw[a0f (show((i+1:Nat):Int)<(((x::r).length:Nat):Int) by exact_mod_cast a),a0f (show(0:Int)<=((i+1:Nat):Int) by omega)];simp only[ai,a0j,a0a a,aa,aH (show i+1<4611686018427387904 by omega)];rw[kG _ _ r hi];simp
  ·simp only[AI.l0]
   rw[a0n (show¬((r.length+1:Nat):Int)<(((x::r).length:Nat):Int) by simp),ah,a2a];rfl
def uI (l:List Int) (h:0<l.length) (c:l.length<4611686018427387904) (d:l.length<k):AJ k (l,())=some ((qM l,()),((),())):=by
 cases l with
 |nil=>simp at h
 |cons x r=>
  simp only[AJ];rw[a0n (show¬(((x::r).length:Nat):Int)<1 by simp;omega)];simp only[ah,a1d,a9h,ai,a4b,a1p,aa];have:=ca (b:=AJ.l0 k) (λi=>(x::r,(r.take i).foldl (λm y=>if y>m then y else m) x,(((i+1:Nat):Int)),())) r.length (r:=some ((qM (x::r),()),((),()))) (λG i hi=> ?_) (λG=> ?_) (f:=k) (by simp at d;omega)
  ·simpa using this
  ·have a:i+1<(x::r).length:=by simp;omega
   simp only[a0g]at c;simp only[AJ.l0];rw[a0f (show((i+1:Nat):Int)<(((x::r).length:Nat):Int) by exact_mod_cast a),a0f (show(0:Int)<=((i+1:Nat):Int) by omega)];simp only[ai,a0j,a0a a,aa,aH (show i+1<4611686018427387904 by omega)];rw[kG _ _ r hi];simp
  ·simp only[AJ.l0]
   rw[a0n (show¬((r.length+1:Nat):Int)<(((x::r).length:Nat):Int) by simp),ah,a2a];rfl
def rU (l:List Int) (a b:Bool) (al:Int):gN:=cond ((l++cond a [-9223372036854775808] []).isEmpty||(l++cond b [9223372036854775807] []).isEmpty) (0,0,false,cond (a||b) (en al 4) al,()) (pR (l++cond a [-9223372036854775808] []),qM (l++cond b [9223372036854775807] []),true,cond (a||b) (en al 4) al,())
def OY (l:List Int):((l.length:Int)==0)=l.isEmpty:=by cases l<;>simp;omega
def zN (l:List Int) (e f:Bool) (al:Int) (n:l.length<1000) (g:l.length+1<k):JN k ((l,e,f,()),al,())=some ((rU l e f al,()),((l,e,f,()),(),())):=by
 have i:=J8 (k:=k) l (by unfold af;omega);have j:∀z:Int,decide ((l.length+([z]:List Int).length)*8<=af)=true:=λz=>by simp[af];omega
 have m:∀z:Int,(l++[z]).isEmpty=false:=λz=>by cases l<;>rfl
 have c:∀z:Int,AI k (l++[z],())=some ((pR (l++[z]),()),((),())):=λz=>uH _ (by simp) (by simp;omega) (by simpa using g)
 have d:∀z:Int,AJ k (l++[z],())=some ((qM (l++[z]),()),((),())):=λz=>uI _ (by simp) (by simp;omega) (by simpa using g)
 have a:l.isEmpty=false->AI k (l,())=some ((pR l,()),((),())):=λh=>uH _ (by cases l;simp at h;simp) (by omega) (by omega)
 have b:l.isEmpty=false->AJ k (l,())=some ((qM l,()),((),())):=λh=>uI _ (by cases l;simp at h;simp) (by omega) (by omega)
 unfold JN rU en
 cases e<;>cases f<;>simp only[ai,ah,a0d,i,aa,j,OY,m,c,d,a1r,a2p,a9n,a8c,a9o,a6j,a2m]<;>cases he:l.isEmpty<;>simp only[he,ai,ah,a0d,a,b,aa,a1r,a2p]
 all_goals rfl
abbrev iA:=List Int×Bool×Bool×Unit
def cR (c:iA) (p:Int×Int):iA:=if p.2<0 then(c.1,true,c.2.2.1,())else if p.2>0 then(c.1,c.2.1,true,())else(c.1++[p.1],c.2.1,c.2.2.1,())
def dH (op:Int->Int->Int×Int) (a b:bA):List (Int×Int):=[op a.1 b.1,op a.1 b.2.1,op a.2.1 b.1,op a.2.1 b.2.1]
def oN (c:iA) (p:Int×Int):(cR c p).1.length<=c.1.length+1:=by
 unfold cR;split
 ·simp
 ·split<;>simp
def cE:(l:List (Int×Int))->(c:iA)->(l.foldl cR c).1.length<=c.1.length+l.length
 |[],c=>by simp
 |p::l,c=>by
  have a:=cE l (cR c p);have b:=oN c p;simp only[a2o,a0g];omega
def dN (k:Nat) (c:iA) (n w:Int) (h:c.1.length<1000:=by omega):Lq k ((c.1,c.2.1,c.2.2.1,()),n,w,())=some ((),(cR c (n,w),(),(),())):=by
 obtain⟨l,a,b,⟨⟩⟩:=c;simp only at h;simp only[Lq,cR,an];split
 ·rfl
 ·split
  ·rfl
  ·rw[a0b (by simp[af];omega)]
def gU (a b:Int):Int×Int:=cN (a+b)
def gD (a b:Int):Int×Int:=cN (a-b)
def gV (a b:Int):Int×Int:=cN (a*b)
def uJ (k:Nat) (c:ar a) (_:ar b):zG k (a,b,())=some (((du a b).1,(du a b).2,()),((),(),())):=xK k c
def uK (k:Nat) (c:ar a) (d:ar b):Cr k (a,b,())=some (((gU a b).1,(gU a b).2,()),((),(),())):=xF k c d
def uL (k:Nat) (c:ar a) (d:ar b):Mv k (a,b,())=some (((gD a b).1,(gD a b).2,()),((),(),())):=qJ k c d
def uM (k:Nat) (c:ar a) (d:ar b):Cs k (a,b,())=some (((gV a b).1,(gV a b).2,()),((),(),())):=xJ k c d
def AN (m:3<=k) (b:bA) (f:ar b.1) (g:ar b.2.1) (j:_->Option (Unit×(iA×Unit×Unit×Unit×Unit))) (c:iA) (x:Int) (l:ar x) (n:c.1.length<200) (a:List Int) (d e:Int):aP (Cw.l2 k j) k ((c.1,c.2.1,c.2.2.1,()),(),(b.1,b.2.1,()),x,a,d,e,[b.1,b.2.1],(([b.1,b.2.1]:List Int).length:Int),0,())=j (([gD x b.1,gD x b.2.1].foldl cR c),(),(b.1,b.2.1,()),a,d,wrap .i64 (e+1),()):=by
 have o:=λi=>cE (([gD x b.1,gD x b.2.1]:List (Int×Int)).take i) c
 refine ca (b:=Cw.l2 k j) (λi=>(((([gD x b.1,gD x b.2.1]:List (Int×Int)).take i).foldl cR c|>.1,((([gD x b.1,gD x b.2.1]:List (Int×Int)).take i).foldl cR c).2.1,((([gD x b.1,gD x b.2.1]:List (Int×Int)).take i).foldl cR c).2.2.1,()),(),(b.1,b.2.1,()),x,a,d,e,[b.1,b.2.1],(([b.1,b.2.1]:List Int).length:Int),(i:Int),())) 2 (λG i hi=> ?_) (λG=> ?_) (by omega)
 ·match i,hi with
  |0,_=>
   simp only[Cw.l2];have h:=dN k c (gD x b.1).1 (gD x b.1).2;simp[uL k l f,h,ak]
  |1,_=>
   simp only[Cw.l2];have p:=oN c (gD x b.1);have h:=dN k (cR c (gD x b.1)) (gD x b.2.1).1 (gD x b.2.1).2;simp[uL k l g,h,ak]
 ·simp[Cw.l2]
def J9 (j:3<=k) (a b:bA) (f:ar a.1) (g:ar a.2.1) (d:ar b.1) (e:ar b.2.1) (c:iA) (m:c.1.length<100):Cw k ((c.1,c.2.1,c.2.2.1,()),a,b,(),())=some ((),((dH gD a b).foldl cR c,(),(),(),())):=by
 simp only[Cw];have l:=cE [gD a.1 b.1,gD a.1 b.2.1] c;refine ca (b:=Cw.l0 k) (λi=>(((((dH gD a b).take (2*i)).foldl cR c).1,(((dH gD a b).take (2*i)).foldl cR c).2.1,(((dH gD a b).take (2*i)).foldl cR c).2.2.1,()),(),(b.1,b.2.1,()),[a.1,a.2.1],(([a.1,a.2.1]:List Int).length:Int),(i:Int),())) 2 (λG i hi=> ?_) (λG=> ?_) (by omega)
 ·match i,hi with
  |0,_=>
   simp only[Cw.l0];have h:=AN j b d e G c a.1 f (by omega) [a.1,a.2.1] (([a.1,a.2.1]:List Int).length:Int) 0;simp only[a0g,a0h]at h;rw[show wrap .i64 ((0:Int)+1)=1 from ak (by omega) (by omega)]at h;simp[dH,ak];exact h
  |1,_=>
   simp only[Cw.l0];have h:=AN j b d e G ([gD a.1 b.1,gD a.1 b.2.1].foldl cR c) a.2.1 g (by simp only[a0g,a0h]at l;omega) [a.1,a.2.1] (([a.1,a.2.1]:List Int).length:Int) 1;simp only[a0g,a0h]at h;rw[show wrap .i64 ((1:Int)+1)=2 from ak (by omega) (by omega)]at h;simp[dH,ak];exact h
 ·simp[Cw.l0,dH]
def AO (m:3<=k) (b:bA) (f:ar b.1) (g:ar b.2.1) (j:_->Option (Unit×(iA×Unit×Unit×Unit×Unit))) (c:iA) (x:Int) (l:ar x) (n:c.1.length<200) (a:List Int) (d e:Int):aP (Cy.l2 k j) k ((c.1,c.2.1,c.2.2.1,()),(),(b.1,b.2.1,()),x,a,d,e,[b.1,b.2.1],(([b.1,b.2.1]:List Int).length:Int),0,())=j (([gU x b.1,gU x b.2.1].foldl cR c),(),(b.1,b.2.1,()),a,d,wrap .i64 (e+1),()):=by
 have o:=λi=>cE (([gU x b.1,gU x b.2.1]:List (Int×Int)).take i) c
 refine ca (b:=Cy.l2 k j) (λi=>(((([gU x b.1,gU x b.2.1]:List (Int×Int)).take i).foldl cR c|>.1,((([gU x b.1,gU x b.2.1]:List (Int×Int)).take i).foldl cR c).2.1,((([gU x b.1,gU x b.2.1]:List (Int×Int)).take i).foldl cR c).2.2.1,()),(),(b.1,b.2.1,()),x,a,d,e,[b.1,b.2.1],(([b.1,b.2.1]:List Int).length:Int),(i:Int),())) 2 (λG i hi=> ?_) (λG=> ?_) (by omega)
 ·match i,hi with
  |0,_=>
   simp only[Cy.l2];have h:=dN k c (gU x b.1).1 (gU x b.1).2;simp[uK k l f,h,ak]
  |1,_=>
   simp only[Cy.l2];have p:=oN c (gU x b.1);have h:=dN k (cR c (gU x b.1)) (gU x b.2.1).1 (gU x b.2.1).2;simp[uK k l g,h,ak]
 ·simp[Cy.l2]
def Ka (j:3<=k) (a b:bA) (f:ar a.1) (g:ar a.2.1) (d:ar b.1) (e:ar b.2.1) (c:iA) (m:c.1.length<100):Cy k ((c.1,c.2.1,c.2.2.1,()),a,b,(),())=some ((),((dH gU a b).foldl cR c,(),(),(),())):=by
 simp only[Cy];have l:=cE [gU a.1 b.1,gU a.1 b.2.1] c;refine ca (b:=Cy.l0 k) (λi=>(((((dH gU a b).take (2*i)).foldl cR c).1,(((dH gU a b).take (2*i)).foldl cR c).2.1,(((dH gU a b).take (2*i)).foldl cR c).2.2.1,()),(),(b.1,b.2.1,()),[a.1,a.2.1],(([a.1,a.2.1]:List Int).length:Int),(i:Int),())) 2 (λG i hi=> ?_) (λG=> ?_) (by omega)
 ·match i,hi with
  |0,_=>
   simp only[Cy.l0];have h:=AO j b d e G c a.1 f (by omega) [a.1,a.2.1] (([a.1,a.2.1]:List Int).length:Int) 0;simp only[a0g,a0h]at h;rw[show wrap .i64 ((0:Int)+1)=1 from ak (by omega) (by omega)]at h;simp[dH,ak];exact h
  |1,_=>
   simp only[Cy.l0];have h:=AO j b d e G ([gU a.1 b.1,gU a.1 b.2.1].foldl cR c) a.2.1 g (by simp only[a0g,a0h]at l;omega) [a.1,a.2.1] (([a.1,a.2.1]:List Int).length:Int) 1;simp only[a0g,a0h]at h;rw[show wrap .i64 ((1:Int)+1)=2 from ak (by omega) (by omega)]at h;simp[dH,ak];exact h
 ·simp[Cy.l0,dH]
def AP (m:3<=k) (b:bA) (f:ar b.1) (g:ar b.2.1) (j:_->Option (Unit×(iA×Unit×Unit×Unit×Unit))) (c:iA) (x:Int) (l:ar x) (n:c.1.length<200) (a:List Int) (d e:Int):aP (Cz.l2 k j) k ((c.1,c.2.1,c.2.2.1,()),(),(b.1,b.2.1,()),x,a,d,e,[b.1,b.2.1],(([b.1,b.2.1]:List Int).length:Int),0,())=j (([gV x b.1,gV x b.2.1].foldl cR c),(),(b.1,b.2.1,()),a,d,wrap .i64 (e+1),()):=by
 have o:=λi=>cE (([gV x b.1,gV x b.2.1]:List (Int×Int)).take i) c
 refine ca (b:=Cz.l2 k j) (λi=>(((([gV x b.1,gV x b.2.1]:List (Int×Int)).take i).foldl cR c|>.1,((([gV x b.1,gV x b.2.1]:List (Int×Int)).take i).foldl cR c).2.1,((([gV x b.1,gV x b.2.1]:List (Int×Int)).take i).foldl cR c).2.2.1,()),(),(b.1,b.2.1,()),x,a,d,e,[b.1,b.2.1],(([b.1,b.2.1]:List Int).length:Int),(i:Int),())) 2 (λG i hi=> ?_) (λG=> ?_) (by omega)
 ·match i,hi with
  |0,_=>
   simp only[Cz.l2];have h:=dN k c (gV x b.1).1 (gV x b.1).2;simp[uM k l f,h,ak]
  |1,_=>
   simp only[Cz.l2];have p:=oN c (gV x b.1);have h:=dN k (cR c (gV x b.1)) (gV x b.2.1).1 (gV x b.2.1).2;simp[uM k l g,h,ak]
 ·simp[Cz.l2]
def Kb (j:3<=k) (a b:bA) (f:ar a.1) (g:ar a.2.1) (d:ar b.1) (e:ar b.2.1) (c:iA) (m:c.1.length<100):Cz k ((c.1,c.2.1,c.2.2.1,()),a,b,(),())=some ((),((dH gV a b).foldl cR c,(),(),(),())):=by
 simp only[Cz];have l:=cE [gV a.1 b.1,gV a.1 b.2.1] c;refine ca (b:=Cz.l0 k) (λi=>(((((dH gV a b).take (2*i)).foldl cR c).1,(((dH gV a b).take (2*i)).foldl cR c).2.1,(((dH gV a b).take (2*i)).foldl cR c).2.2.1,()),(),(b.1,b.2.1,()),[a.1,a.2.1],(([a.1,a.2.1]:List Int).length:Int),(i:Int),())) 2 (λG i hi=> ?_) (λG=> ?_) (by omega)
 ·match i,hi with
  |0,_=>
   simp only[Cz.l0];have h:=AP j b d e G c a.1 f (by omega) [a.1,a.2.1] (([a.1,a.2.1]:List Int).length:Int) 0;simp only[a0g,a0h]at h;rw[show wrap .i64 ((0:Int)+1)=1 from ak (by omega) (by omega)]at h;simp[dH,ak];exact h
  |1,_=>
   simp only[Cz.l0];have h:=AP j b d e G ([gV a.1 b.1,gV a.1 b.2.1].foldl cR c) a.2.1 g (by simp only[a0g,a0h]at l;omega) [a.1,a.2.1] (([a.1,a.2.1]:List Int).length:Int) 1;simp only[a0g,a0h]at h;rw[show wrap .i64 ((1:Int)+1)=2 from ak (by omega) (by omega)]at h;simp[dH,ak];exact h
 ·simp[Cz.l0,dH]
def AQ (m:3<=k) (b:bA) (f:ar b.1) (g:ar b.2.1) (j:_->Option (Unit×(iA×Unit×Unit×Unit×Unit))) (c:iA) (x:Int) (l:ar x) (n:c.1.length<200) (a:List Int) (d e:Int):aP (CA.l2 k j) k ((c.1,c.2.1,c.2.2.1,()),(),(b.1,b.2.1,()),x,a,d,e,[b.1,b.2.1],(([b.1,b.2.1]:List Int).length:Int),0,())=j (([du x b.1,du x b.2.1].foldl cR c),(),(b.1,b.2.1,()),a,d,wrap .i64 (e+1),()):=by
 have o:=λi=>cE (([du x b.1,du x b.2.1]:List (Int×Int)).take i) c
 refine ca (b:=CA.l2 k j) (λi=>(((([du x b.1,du x b.2.1]:List (Int×Int)).take i).foldl cR c|>.1,((([du x b.1,du x b.2.1]:List (Int×Int)).take i).foldl cR c).2.1,((([du x b.1,du x b.2.1]:List (Int×Int)).take i).foldl cR c).2.2.1,()),(),(b.1,b.2.1,()),x,a,d,e,[b.1,b.2.1],(([b.1,b.2.1]:List Int).length:Int),(i:Int),())) 2 (λG i hi=> ?_) (λG=> ?_) (by omega)
 ·match i,hi with
  |0,_=>
   simp only[CA.l2];have h:=dN k c (du x b.1).1 (du x b.1).2;simp[uJ k l f,h,ak]
  |1,_=>
   simp only[CA.l2];have p:=oN c (du x b.1);have h:=dN k (cR c (du x b.1)) (du x b.2.1).1 (du x b.2.1).2;simp[uJ k l g,h,ak]
 ·simp[CA.l2]
def Kc (j:3<=k) (a b:bA) (f:ar a.1) (g:ar a.2.1) (d:ar b.1) (e:ar b.2.1) (c:iA) (m:c.1.length<100):CA k ((c.1,c.2.1,c.2.2.1,()),a,b,(),())=some ((),((dH du a b).foldl cR c,(),(),(),())):=by
 simp only[CA];have l:=cE [du a.1 b.1,du a.1 b.2.1] c;refine ca (b:=CA.l0 k) (λi=>(((((dH du a b).take (2*i)).foldl cR c).1,(((dH du a b).take (2*i)).foldl cR c).2.1,(((dH du a b).take (2*i)).foldl cR c).2.2.1,()),(),(b.1,b.2.1,()),[a.1,a.2.1],(([a.1,a.2.1]:List Int).length:Int),(i:Int),())) 2 (λG i hi=> ?_) (λG=> ?_) (by omega)
 ·match i,hi with
  |0,_=>
   simp only[CA.l0];have h:=AQ j b d e G c a.1 f (by omega) [a.1,a.2.1] (([a.1,a.2.1]:List Int).length:Int) 0;simp only[a0g,a0h]at h;rw[show wrap .i64 ((0:Int)+1)=1 from ak (by omega) (by omega)]at h;simp[dH,ak];exact h
  |1,_=>
   simp only[CA.l0];have h:=AQ j b d e G ([du a.1 b.1,du a.1 b.2.1].foldl cR c) a.2.1 g (by simp only[a0g,a0h]at l;omega) [a.1,a.2.1] (([a.1,a.2.1]:List Int).length:Int) 1;simp only[a0g,a0h]at h;rw[show wrap .i64 ((1:Int)+1)=2 from ak (by omega) (by omega)]at h;simp[dH,ak];exact h
 ·simp[CA.l0,dH]
def bw (a:bA):Prop:=ar a.1/\ar a.2.1
def mT (cs:List (Int×Int)) (al:Int):gN:=rU (cs.foldl cR ([],false,false,())).1 (cs.foldl cR ([],false,false,())).2.1 (cs.foldl cR ([],false,false,())).2.2.1 al
def oO:gN:=(0,0,false,0,())
def lA (op:Int->Int->Int×Int) (a b:bA):gN:=cond (co a b) (mT (dH op a b) 0) oO
def lg (cs:List (Int×Int)) (al:Int) (h:cs.length<100) (b:200<=k):JN k (((cs.foldl cR ([],false,false,())).1,(cs.foldl cR ([],false,false,())).2.1,(cs.foldl cR ([],false,false,())).2.2.1,()),al,())=some ((mT cs al,()),(((cs.foldl cR ([],false,false,())).1,(cs.foldl cR ([],false,false,())).2.1,(cs.foldl cR ([],false,false,())).2.2.1,()),(),())):=by
 have a:=cE cs ([],false,false,());simp only[a0h]at a;exact zN _ _ _ al (by omega) (by omega)
def MO (e:200<=k) {a b:bA} (c:bw a) (d:bw b):JO k (a,b,(),())=some ((lA gD a b,()),((),(),(),())):=by
 simp only[JO,fE,aa,lA]
 cases co a b
 ·simp[oO]
 ·have h:=J9 (k:=k) (by omega) a b c.1 c.2 d.1 d.2 ([],false,false,()) (by simp)
  simp only[a0t,ah,h,aa,lg (dH gD a b) 0 (by simp[dH]) e,a1r]
def MP (e:200<=k) {a b:bA} (c:bw a) (d:bw b):JR k (a,b,(),())=some ((lA gU a b,()),((),(),(),())):=by
 simp only[JR,fE,aa,lA]
 cases co a b
 ·simp[oO]
 ·have h:=Ka (k:=k) (by omega) a b c.1 c.2 d.1 d.2 ([],false,false,()) (by simp)
  simp only[a0t,ah,h,aa,lg (dH gU a b) 0 (by simp[dH]) e,a1r]
def MQ (e:200<=k) {a b:bA} (c:bw a) (d:bw b):JT k (a,b,(),())=some ((lA gV a b,()),((),(),(),())):=by
 simp only[JT,fE,aa,lA]
 cases co a b
 ·simp[oO]
 ·have h:=Kb (k:=k) (by omega) a b c.1 c.2 d.1 d.2 ([],false,false,()) (by simp)
  simp only[a0t,ah,h,aa,lg (dH gV a b) 0 (by simp[dH]) e,a1r]
def CF (c:200<=k) {a b:bA} (d:bw a) (e:bw b):JS k (a,b,())=some ((lA gU a b,()),((),(),())):=by
 simp only[JS,MP c d e,aa]
def rV (c:200<=k) {a b:bA} (d:bw a) (e:bw b):Ei k (a,b,())=some ((lA gD a b,()),((),(),())):=by
 simp only[Ei,MO c d e,aa]
def CG (c:200<=k) {a b:bA} (d:bw a) (e:bw b):JU k (a,b,())=some ((lA gV a b,()),((),(),())):=by
 simp only[JU,MQ c d e,aa]
def db:bw (0,0,()):=by unfold bw ar;simp
def CH (b:200<=k) {a:bA} (c:bw a):JP k (a,())=some ((lA gD (0,0,()) a,()),((),())):=by
 simp only[JP,rV b db c,aa]
def ci (b:bA):List bA:=(if b.1<0 then [(b.1,if b.2.1< -1 then b.2.1 else-1,())]else [])++(if b.2.1>0 then [(if b.1>1 then b.1 else 1,b.2.1,())]else [])
def jM (b:bA):Int:=cond (iO b 0) 1 0
def Ke {b:bA} (e:bw b) (d:bj b=true):dG b (-9223372036854775808,-1,())=if b.1<0 then((b.1,if b.2.1< -1 then b.2.1 else-1,()),true,())else((0,0,()),false,()):=by
 obtain⟨⟨g,i⟩,j,k⟩:=e;have f:b.1<=b.2.1:=a0z d;have a:iz b (-9223372036854775808,-1,())=(b.1,if-1<b.2.1 then-1 else b.2.1,()):=by
  unfold iz;simp only;rw[ifNegQ]
 have c:bj ((-9223372036854775808:Int),(-1:Int),())=true:=rfl;unfold dG co;rw[d,c,a];by_cases h:b.1<0
 ·rw[a0b h]
  have:bj (b.1,if-1<b.2.1 then-1 else b.2.1,())=true:=a0f (by simp only;split<;>omega);rw[this];simp only[a6l,a1r]
  congr 2
  split<;>split<;>first|rfl|omega|(congr 1;omega)
 ·rw[a0e h]
  have:bj (b.1,if-1<b.2.1 then-1 else b.2.1,())=false:=a0n (by simp only;split<;>omega);rw[this];rfl
def Kf {b:bA} (e:bw b) (d:bj b=true):dG b (1,9223372036854775807,())=if b.2.1>0 then((if b.1>1 then b.1 else 1,b.2.1,()),true,())else((0,0,()),false,()):=by
 obtain⟨⟨g,i⟩,j,k⟩:=e;have f:b.1<=b.2.1:=a0z d;have a:iz b (1,9223372036854775807,())=(if 1>b.1 then 1 else b.1,b.2.1,()):=by
  unfold iz;simp only;rw[a0e (show¬(9223372036854775807<b.2.1) by omega)]
 have c:bj ((1:Int),(9223372036854775807:Int),())=true:=rfl;unfold dG co;rw[d,c,a];by_cases h:b.2.1>0
 ·rw[a0b h]
  have:bj (if 1>b.1 then 1 else b.1,b.2.1,())=true:=a0f (by simp only;split<;>omega);rw[this];simp only[a6l,a1r]
  congr 2
  split<;>split<;>first|rfl|omega
 ·rw[a0e h]
  have:bj (if 1>b.1 then 1 else b.1,b.2.1,())=false:=a0n (by simp only;split<;>omega);rw[this];rfl
def uN {b:bA} (a:bw b) (c:bj b=true):Ek k (b,())=some ((ci b,jM b,()),((),())):=by
 simp only[Ek,jw,aa,Ke a c,Kf a c,mS,ci,jM];by_cases d:b.1<0<;>by_cases e:b.2.1>0<;>simp only[d,e,a1s,a1z]<;>cases iO b 0<;>simp[af]
def qN {b:bA} (a:bw b):∀x∈ci b,bw x:=by
 obtain⟨⟨c,d⟩,e,f⟩:=a;intro x hx;unfold ci at hx;rcases a0k.1 hx with hx|hx
 ·split at hx
  ·simp only[a0v]at hx
   subst hx;exact⟨⟨c,d⟩,by unfold ar;simp only;split<;>omega⟩
  ·cases hx
 ·split at hx
  ·simp only[a0v]at hx
   subst hx;exact⟨by unfold ar;simp only;split<;>omega,⟨e,f⟩⟩
  ·cases hx
def Kg (b:bA):(ci b).length<=2:=by
 unfold ci;by_cases a:b.1<0<;>by_cases c:b.2.1>0<;>simp only[a,c,a1s,a1z]<;>simp
def Es (a b:bA):List (Int×Int):=(ci b).flatMap (dH du a)
def qc (a b:bA):gN:=cond (co a b) (mT (Es a b) (jM b)) oO
def MR (op:Int->Int->Int×Int) (a b:bA):(dH op a b).length=4:=rfl
def tp (a:bA):(l:List bA)->(l.flatMap (dH du a)).length=4*l.length
 |[]=>rfl
 |x::l=>by rw[a5s,a0m,tp a l,MR,a0g];omega
def CI (l:200<=k) {a b:bA} (e:bw a) (f:bw b):xy k (a,b,())=some ((qc a b,()),((),(),())):=by
 simp only[xy,fE,aa,qc]
 cases ho:co a b
 ·simp[oO]
 ·have c:bj b=true:=by unfold co at ho;simp only[a0c]at ho;exact ho.2
  simp only[a0t,ah,uN f c,aa,a1r];have m:=Kg b
  let cs:Nat->iA:=λi=>(((ci b).take i).flatMap (dH du a)).foldl cR ([],false,false,())
  have d:∀i,(cs i).1.length<=8:=λi=>by
   have g:=cE (((ci b).take i).flatMap (dH du a)) ([],false,false,());rw[tp,a1m]at g;simp only[a0h]at g;show(List.foldl cR ([],false,false,()) (((ci b).take i).flatMap (dH du a))).1.length<=8;omega
  refine ca (b:=xy.l0 k) (λi=>((a.1,a.2.1,()),(0,0,false,0,()),jM b,((cs i).1,(cs i).2.1,(cs i).2.2.1,()),ci b,((ci b).length:Int),(i:Int),())) (ci b).length (λG i hi=> ?_) (λG=> ?_) (by omega)
  ·simp only[xy.l0]
   rw[a0f (show(i:Int)<((ci b).length:Int) by omega),a0f (show(0:Int)<=(i:Int)/\(i:Int)<((ci b).length:Int) by omega)];have j:=qN f _ (a0l hi);have h:=Kc (k:=k) (by omega) (a.1,a.2.1,()) (ci b)[i] e.1 e.2 j.1 j.2 (cs i) (by have:=d i;omega);simp only[ai,a0j,a0a hi,aa,h,aH (show i<4611686018427387904 by omega)];have n:cs (i+1)=(dH du a (ci b)[i]).foldl cR (cs i):=by
    show List.foldl cR _ (((ci b).take (i+1)).flatMap (dH du a))=_;rw[a2n hi,a7f,a4a];simp[cs]
   rw[n]
  ·simp only[xy.l0]
   rw[a0n (show¬((ci b).length:Int)<((ci b).length:Int) by omega),ah];have o:=lg (k:=k) (Es a b) (jM b) (by unfold Es;rw[tp];omega) l;have p:cs (ci b).length=(Es a b).foldl cR ([],false,false,()):=by
    show List.foldl cR _ (((ci b).take (ci b).length).flatMap (dH du a))=_;rw[a2a];rfl
   rw[p,o];simp only[aa]
def AR:(r:List Int)->(x:Int)->(r.foldl (λm y=>if y<m then y else m) x=x\/r.foldl (λm y=>if y<m then y else m) x∈r)/\r.foldl (λm y=>if y<m then y else m) x<=x/\∀y∈r,r.foldl (λm y=>if y<m then y else m) x<=y
 |[],x=>by simp
 |z::r,x=>by
  simp only[a2o];obtain⟨h1,a,b⟩:=AR r (if z<x then z else x)
  generalize r.foldl (λm y=>if y<m then y else m) (if z<x then z else x)=v at h1 a b
  refine⟨?_,?_,λy hy=> ?_⟩
  ·rcases h1 with h1|h1
   ·by_cases h:z<x
    ·rw[a0b h]at h1;rw[h1];exact .inr (by simp)
    ·rw[a0e h]at h1;exact .inl h1
   ·exact .inr (by simp[h1])
  ·split at a<;>omega
  ·rcases a1e.1 hy with rfl|hy
   ·split at a<;>omega
   ·exact b y hy
def AS:(r:List Int)->(x:Int)->(r.foldl (λm y=>if y>m then y else m) x=x\/r.foldl (λm y=>if y>m then y else m) x∈r)/\x<=r.foldl (λm y=>if y>m then y else m) x/\∀y∈r,y<=r.foldl (λm y=>if y>m then y else m) x
 |[],x=>by simp
 |z::r,x=>by
  simp only[a2o];obtain⟨h1,a,b⟩:=AS r (if z>x then z else x)
  generalize r.foldl (λm y=>if y>m then y else m) (if z>x then z else x)=v at h1 a b
  refine⟨?_,?_,λy hy=> ?_⟩
  ·rcases h1 with h1|h1
   ·by_cases h:z>x
    ·rw[a0b h]at h1;rw[h1];exact .inr (by simp)
    ·rw[a0e h]at h1;exact .inl h1
   ·exact .inr (by simp[h1])
  ·split at a<;>omega
  ·rcases a1e.1 hy with rfl|hy
   ·split at a<;>omega
   ·exact b y hy
def fF (h:l≠[]):pR l∈l/\∀y∈l,pR l<=y:=by
 cases l with
 |nil=>exact absurd rfl h
 |cons x r=>
  obtain⟨h1,a,b⟩:=AR r x;refine⟨?_,λy hy=> ?_⟩
  ·rcases h1 with h1|h1
   ·show List.foldl _ x r∈_;rw[h1];simp
   ·exact a3c _ h1
  ·rcases a1e.1 hy with rfl|hy
   ·exact a
   ·exact b y hy
def fG (h:l≠[]):qM l∈l/\∀y∈l,y<=qM l:=by
 cases l with
 |nil=>exact absurd rfl h
 |cons x r=>
  obtain⟨h1,a,b⟩:=AS r x;refine⟨?_,λy hy=> ?_⟩
  ·rcases h1 with h1|h1
   ·show List.foldl _ x r∈_;rw[h1];simp
   ·exact a3c _ h1
  ·rcases a1e.1 hy with rfl|hy
   ·exact a
   ·exact b y hy
def uO (cs:List (Int×Int)):List Int:=(cs.filter λp=>p.2==0).map (·.1)
def GR (cs:List (Int×Int)):Bool:=cs.any λp=>decide (p.2<0)
def GS (cs:List (Int×Int)):Bool:=cs.any λp=>decide (p.2>0)
def Et:(cs:List (Int×Int))->(c:iA)->cs.foldl cR c=(c.1++uO cs,c.2.1||GR cs,c.2.2.1||GS cs,())
 |[],c=>by simp[uO,GR,GS]
 |p::cs,c=>by
  rw[a2o,Et cs (cR c p)];unfold cR uO GR GS;simp only[List.any_cons,a3v];by_cases d:p.2<0
  ·have b:¬p.2>0:=by omega
   have a:¬p.2=0:=by omega
   simp[d,b,a]
  ·by_cases b:p.2>0
   ·have a:¬p.2=0:=by omega
    simp[d,b,a]
   ·have a:p.2=0:=by omega
    simp[d,b,a]
def tq (cs:List (Int×Int)) (al:Int):mT cs al=rU (uO cs) (GR cs) (GS cs) al:=by
 unfold mT;rw[Et];simp
def xO {cs:List (Int×Int)}:x∈uO cs↔(x,0)∈cs:=by
 unfold uO;simp only[a2y,a4o,a3f];constructor
 ·rintro⟨p,⟨a,b⟩,rfl⟩
  have:p=(p.1,0):=by rw[<-b]
  rwa [this]at a
 ·intro h
  exact⟨(x,0),⟨h,rfl⟩,rfl⟩
def Rf (k:Nat) (O:Int) (f:Int->Int->Int×Int):Prop:=∀x y,ar x->ar y->OX k (O,x,y,())=some (((f x y).1,(f x y).2,()),((),(),(),()))/\ar (f x y).1
def OZ (k:Nat):Rf k 47 du:=λx y a b=>⟨by simp[OX,xL k a],by
 unfold du;split
 ·simp[ar]
 ·exact gr _⟩
def lX (b:bA):Int:=wrap .i64 (wrap .u64 ((if cK b.2.1>cK b.1 then cK b.2.1 else cK b.1)-1))
def jx (a b:bA):gN:=cond (co a b) (cond (ci b).isEmpty (0,0,false,jM b,()) (cond (a.1==a.2.1&& b.1==b.2.1) (pQ a.1 b.1,pQ a.1 b.1,true,jM b,()) (cond (decide (a.1<0)) (if a.1>wrap .i64 (0-lX b)then a.1 else wrap .i64 (0-lX b)) 0,cond (decide (a.2.1>0)) (if a.2.1<lX b then a.2.1 else lX b) 0,true,jM b,()))) oO
def jy (k:Nat) (n:Int):H6 k (n,())=some (((n,n,()),()),((),())):=rfl
def MS (l:List bA):((l.length:Int)==0)=l.isEmpty:=by cases l<;>simp;omega
def CJ {a b:bA} (c:bw b):JV k (a,b,())=some ((jx a b,()),((),(),())):=by
 simp only[JV,fE,aa,jx]
 cases ho:co a b
 ·simp[oO]
 ·have d:bj b=true:=by unfold co at ho;simp only[a0c]at ho;exact ho.2
  simp only[a0t,ah,uN c d,aa,a1r,MS,xM,jy,mQ k c.1,mQ k c.2]
  cases (ci b).isEmpty
  ·cases h1:(a.1==a.2.1)<;>cases h2:(b.1==b.2.1)<;>cases h3:decide (a.1<0)<;>cases h4:decide (a.2.1>0)<;>simp only[ai,ah,a0d,a7c,Bool.and_false,a6l,a1r,a2p]<;>rfl
  ·simp only[ai,a1r]
def tr {A R:Type} {b:(A->Option R)->A->Option R} (a:0<k) (x:A):aP b k x=b (aP b (k-1)) x:=by
 cases k with
 |zero=>omega
 |succ n=>rfl
def dv (op:Int) (a b:bA):Bool:=
 if op=13 then decide (a.1<b.2.1)else if op=14 then decide (a.1<=b.2.1)else if op=15 then decide (a.1<=b.2.1)&& decide (b.1<=a.2.1)
 else if op=16 then a.1 !=a.2.1||(b.1 !=b.2.1||a.1 !=b.1)else if op=17 then decide (b.1<a.2.1)else decide (b.1<=a.2.1)
def vm (op:Int) (a b:bA):bA:=cond (decide (13<=op/\op<=18)&& co a b) (cond (dv (31-op) a b) 0 1,cond (dv op a b) 1 0,()) (0,0,())
def xP (c:2<=k) (d:13<=op) (g:op<=18) (a b:bA):kS k (op,a,b,())=some ((dv op a b,()),((),(),(),())):=by
 have h:op=13\/op=14\/op=15\/op=16\/op=17\/op=18:=by omega
 unfold kS;rw[tr (by omega)];rcases h with rfl|rfl|rfl|rfl|rfl|rfl
 ·simp[kS.f,dv]
 ·simp[kS.f,dv]
 ·simp only[kS.f,dv,gZ]
  cases decide (a.1<=b.2.1)<;>rfl
 ·simp only[kS.f,dv,gZ]
  cases (a.1 !=a.2.1)<;>cases (b.1 !=b.2.1)<;>rfl
 ·have e:aP (kS.f k) (k-1) (13,b,a,())=some ((decide (b.1<a.2.1),()),((),(),(),())):=by
   rw[tr (by omega)];simp[kS.f]
  simp[kS.f,rR,dv,e]
 ·have e:aP (kS.f k) (k-1) (14,b,a,())=some ((decide (b.1<=a.2.1),()),((),(),(),())):=by
   rw[tr (by omega)];simp[kS.f]
  simp[kS.f,rR,dv,e]
def uP (k:Nat) (a:13<=op) (b:op<=18):xz k (op,())=some ((31-op,()),((),())):=by
 have h:op=13\/op=14\/op=15\/op=16\/op=17\/op=18:=by omega
 rcases h with rfl|rfl|rfl|rfl|rfl|rfl<;>simp[xz]
def Ib (e:13<=op) (f:op<=18) {a b:bA} (c:co a b=true) (d:dv (31-op) a b=false):dv op a b=true:=by
 unfold co bj at c;simp only[a0c,a0q]at c;have h:op=13\/op=14\/op=15\/op=16\/op=17\/op=18:=by omega
 rcases h with rfl|rfl|rfl|rfl|rfl|rfl<;>simp[dv]at d⊢<;>omega
def xQ (c:2<=k) (op:Int) (a b:bA):JW k (op,a,b,())=some ((vm op a b,()),((),(),(),())):=by
 simp only[JW,cI,fE,aa,vm];by_cases h:13<=op/\op<=18
 ·rw[a0f h]
  cases ho:co a b
  ·simp
  ·simp only[a0t,ah,a0d,uP k h.1 h.2,aa,xP c h.1 h.2,xP c (show 13<=31-op by omega) (show 31-op<=18 by omega),a6l,a1r,MK,jy]
   cases h3:dv (31-op) a b
   ·rw[Ib h.1 h.2 ho h3]
    simp
   ·cases dv op a b<;>simp
 ·rw[a0n h]
  simp
abbrev CK:=bA×Bool×Unit
def Oe:CK:=((0,0,()),false,())
def zO (c:bA):CK:=cond (bj c) (c,true,()) Oe
def Ic (a:bA) (h:Int):CK:=zO (a.1,if h<a.2.1 then h else a.2.1,())
def Id (a:bA) (l:Int):CK:=zO (if l>a.1 then l else a.1,a.2.1,())
def rW (a b:bA):CK:=if b.1≠b.2.1\/b.1≠a.1/\b.1≠a.2.1 then(a,true,())else if a.1=a.2.1 then Oe else if b.1=a.1 then((a.1+1,a.2.1,()),true,())else((a.1,a.2.1-1,()),true,())
def pS (op:Int) (a b:bA):CK:=cond (decide (13<=op/\op<=18)&& co a b)
 (
  if op=15 then dG a b else if op=16 then rW a b else if op=14 then Ic a b.2.1 else if op=18 then Id a b.1
  else if op=13 then(if b.2.1= -9223372036854775808 then Oe else Ic a (b.2.1-1))else(if b.1=9223372036854775807 then Oe else Id a (b.1+1))) Oe
def xR {a:bA} (b:bw a) (c:bj a=true) {h:Int} (d: -9223372036854775808<=h):dG a (-9223372036854775808,h,())=Ic a h:=by
 have e:bj ((-9223372036854775808:Int),h,())=true:=a0f d;have f:iz a (-9223372036854775808,h,())=(a.1,if h<a.2.1 then h else a.2.1,()):=by
  unfold iz;simp only;rw[a0e (by have:=b.1.1;omega)]
 unfold dG co Ic zO;rw[c,e,f];rfl
def xS {a:bA} (b:bw a) (c:bj a=true) {l:Int} (d:l<=9223372036854775807):dG a (l,9223372036854775807,())=Id a l:=by
 have e:bj (l,(9223372036854775807:Int),())=true:=a0f d;have f:iz a (l,9223372036854775807,())=(if l>a.1 then l else a.1,a.2.1,()):=by
  unfold iz;simp only;rw[a0e (show¬(9223372036854775807<a.2.1) by have:=b.2.2;omega)]
 unfold dG co Id zO;rw[c,e,f];rfl
def Kh (k:Nat) {a b:bA} (i:bw a) (m:bw b) (j:bj a=true):JZ k (a,b,())=some (rW a b,((),(),())):=by
 obtain⟨⟨a1,n⟩,o,p⟩:=i;have l:a.1<=a.2.1:=a0z j;unfold JZ rW Oe;simp only[bP];by_cases c1:b.1=b.2.1
 ·have d:(b.1 !=b.2.1)=false:=by simp[c1]
  by_cases c2:b.1=a.1
  ·have f:¬(b.1≠b.2.1\/b.1≠a.1/\b.1≠a.2.1):=by omega
   have e:(b.1 !=a.1)=false:=by simp[c2]
   rw[a0e f];simp only[d,e,ah,a0d];by_cases c:a.1=a.2.1
   ·rw[a0b c,a0b c]
   ·have w1:wrap .i64 (a.1+1)=a.1+1:=ak (by omega) (by omega)
    rw[a0e c,a0b c2,a0e c,a0b c2,w1]
  ·have e:(b.1 !=a.1)=true:=by simp[c2]
   by_cases g:b.1=a.2.1
   ·have c:¬a.1=a.2.1:=by omega
    have w1:wrap .i64 (a.2.1-1)=a.2.1-1:=ak (by omega) (by omega);have f:¬(b.1≠b.2.1\/b.1≠a.1/\b.1≠a.2.1):=by omega
    have h:(b.1 !=a.2.1)=false:=by simp[g]
    rw[a0e f];simp only[d,e,h,ah,ai,a0d];rw[a0e c,a0e c2,a0e c,a0e c2,w1]
   ·have h:(b.1 !=a.2.1)=true:=by simp[g]
    rw[a0b (show b.1≠b.2.1\/b.1≠a.1/\b.1≠a.2.1 from .inr ⟨c2,g⟩)];simp only[d,e,h,ah,ai,a0d]
 ·rw[a0b (show b.1≠b.2.1\/b.1≠a.1/\b.1≠a.2.1 from .inl c1)]
  have d:(b.1 !=b.2.1)=true:=by simp[c1]
  simp only[d,ai,a0d]
def lB (k:Nat) (op:Int) {a b:bA} (e:bw a) (f:bw b):Eo k (op,a,b,())=some (pS op a b,((),(),(),())):=by
 simp only[Eo,cI,fE,aa,pS];by_cases h:13<=op/\op<=18
 ·rw[a0f h]
  cases ho:co a b
  ·simp[Oe]
  ·have c:=ho
   unfold co at c;simp only[a0c]at c;simp only[a0t,ah,a0d,a6l,a1r,bP,jw,aa,Kh k e f c.1,xR e c.1 f.2.1,xS e c.1 f.1.2];by_cases c1:op=15
   ·rw[a0b c1,a0b c1]
   rw[a0e c1,a0e c1];by_cases c2:op=16
   ·rw[a0b c2,a0b c2]
   rw[a0e c2,a0e c2];by_cases g:op=14
   ·rw[a0b g,a0b g]
   rw[a0e g,a0e g];by_cases i:op=18
   ·rw[a0b i,a0b i]
   rw[a0e i,a0e i];by_cases j:op=13
   ·rw[a0b j,a0b j]
    by_cases d:b.2.1= -9223372036854775808
    ·rw[a0b d,a0b d];rfl
    ·have:=f.2
     rw[a0e d,a0e d,ak (n:=b.2.1-1) (by have:=this.1;omega) (by have:=this.2;omega),xR e c.1 (by have:=this.1;omega)]
   ·rw[a0e j,a0e j]
    by_cases d:b.1=9223372036854775807
    ·rw[a0b d,a0b d];rfl
    ·have:=f.1
     rw[a0e d,a0e d,ak (n:=b.1+1) (by have:=this.1;omega) (by have:=this.2;omega),xS e c.1 (by have:=this.2;omega)]
 ·rw[a0n h]
  simp[Oe]
def nE (v:gN):Prop:=bw (v.1,v.2.1,())
def bM:ar 0:=by unfold ar;omega
def qO:nE oO:=⟨bM,bM⟩
def Ki (h:∀x∈l,ar x):ar (pR l):=by
 by_cases e:l=[]
 ·subst e;exact bM
 ·exact h _ (fF e).1
def Kj (h:∀x∈l,ar x):ar (qM l):=by
 by_cases e:l=[]
 ·subst e;exact bM
 ·exact h _ (fG e).1
def GU (h:∀x∈l,ar x) (a b:Bool) (al:Int):nE (rU l a b al):=by
 unfold rU
 cases ((l++cond a [-9223372036854775808] []).isEmpty||(l++cond b [9223372036854775807] []).isEmpty)
 ·refine⟨Ki λx hx=> ?_,Kj λx hx=> ?_⟩
  ·rcases a0k.1 hx with hx|hx
   ·exact h x hx
   ·cases a<;>simp at hx
    subst hx;unfold ar;omega
  ·rcases a0k.1 hx with hx|hx
   ·exact h x hx
   ·cases b<;>simp at hx
    subst hx;unfold ar;omega
 ·exact⟨bM,bM⟩
def uQ {cs:List (Int×Int)} (h:∀p∈cs,ar p.1) (al:Int):nE (mT cs al):=by
 rw[tq];exact GU (λx a=>h _ (xO.1 a)) _ _ _
def pw {f:Int->Int->Int×Int} (c:∀x y,ar x->ar y->ar (f x y).1) {a b:bA} (d:bw a) (e:bw b):∀p∈dH f a b,ar p.1:=by
 intro p g;simp only[dH,a1e,a3y,a4r]at g;rcases g with rfl|rfl|rfl|rfl
 ·exact c _ _ d.1 e.1
 ·exact c _ _ d.1 e.2
 ·exact c _ _ d.2 e.1
 ·exact c _ _ d.2 e.2
def px {f:Int->Int->Int×Int} (c:∀x y,ar x->ar y->ar (f x y).1) {a b:bA} (d:bw a) (e:bw b):nE (lA f a b):=by
 unfold lA
 cases co a b
 ·exact qO
 ·exact uQ (pw c d e) 0
def AT (x y:Int) (_:ar x) (_:ar y):ar (gU x y).1:=gr _
def py (x y:Int) (_:ar x) (_:ar y):ar (gD x y).1:=gr _
def AU (x y:Int) (_:ar x) (_:ar y):ar (gV x y).1:=gr _
def AV (x y:Int) (a:ar x) (b:ar y):ar (du x y).1:=((OZ 0) x y a b).2
def GV {a b:bA} (d:bw a) (e:bw b):nE (qc a b):=by
 unfold qc
 cases co a b
 ·exact qO
 ·refine uQ (λp c=> ?_) _
  obtain⟨x,f,c⟩:=a3q.1 c;exact pw AV d (qN e x f) p c
def iZ (n:Int):ar (wrap .i64 n):=by
 rw[IntKind.wrap_i64];unfold ar;omega
def GW {a b:bA} (c:bw a):nE (jx a b):=by
 unfold jx
 cases co a b
 ·exact qO
 ·cases (ci b).isEmpty
  ·cases (a.1==a.2.1&& b.1==b.2.1)
   ·refine⟨?_,?_⟩
    ·simp only[a1r,a2p]
     cases decide (a.1<0)
     ·exact bM
     ·simp only[a1r]
      split
      ·exact c.1
      ·exact iZ _
    ·simp only[a1r,a2p]
     cases decide (a.2.1>0)
     ·exact bM
     ·simp only[a1r]
      split
      ·exact c.2
      ·exact iZ _
   ·exact⟨tl c.1,tl c.1⟩
  ·exact⟨bM,bM⟩
def tt {a b:bA} (c:bw a) (d:bw b):bw (jH a b):=by
 refine⟨?_,?_⟩<;>(unfold jH;simp only;split)
 ·exact d.1
 ·exact c.1
 ·exact d.2
 ·exact c.2
def MT {a b:bA} (c:bw a) (d:bw b):bw (iz a b):=by
 refine⟨?_,?_⟩<;>(unfold iz;simp only;split)
 ·exact d.1
 ·exact c.1
 ·exact d.2
 ·exact c.2
def lY {a b:bA} (c:bw a) (d:bw b):bw (dG a b).1:=by
 unfold dG
 cases co a b&& bj (iz a b)
 ·exact db
 ·exact MT c d
def MU (op:Int) (a b:bA):bw (vm op a b):=by
 unfold vm
 cases (decide (13<=op/\op<=18)&& co a b)
 ·exact db
 ·cases dv (31-op) a b<;>cases dv op a b<;>(unfold bw ar;simp)
def rX {c:bA} (h:bw c):bw (zO c).1:=by
 unfold zO
 cases bj c
 ·exact db
 ·exact h
def MV (op:Int) {a b:bA} (j:bw a) (k:bw b) (l:bj a=true):bw (pS op a b).1:=by
 unfold pS
 cases (decide (13<=op/\op<=18)&& co a b)
 ·exact db
 ·have m:a.1<=a.2.1:=a0z l
  obtain⟨⟨a1,c⟩,d,e⟩:=j;obtain⟨⟨f,g⟩,h,i⟩:=k;simp only[a1r];split
  ·exact lY ⟨⟨a1,c⟩,d,e⟩ ⟨⟨f,g⟩,h,i⟩
  ·split
   ·unfold rW
    split
    ·exact⟨⟨a1,c⟩,d,e⟩
    ·split
     ·exact db
     ·split
      ·exact⟨⟨by simp only;omega,by simp only;omega⟩,d,e⟩
      ·exact⟨⟨a1,c⟩,⟨by simp only;omega,by simp only;omega⟩⟩
   ·split
    ·exact rX ⟨⟨a1,c⟩,by simp only;split;exact⟨h,i⟩;exact⟨d,e⟩⟩
    ·split
     ·exact rX ⟨by simp only;split;exact⟨f,g⟩;exact⟨a1,c⟩,⟨d,e⟩⟩
     ·split
      ·split
       ·exact db
       ·exact rX ⟨⟨a1,c⟩,by simp only;unfold ar;split<;>omega⟩
      ·split
       ·exact db
       ·exact rX ⟨by simp only;unfold ar;split<;>omega,⟨d,e⟩⟩
def fQ (a:bA):gN:=(a.1,a.2.1,true,0,())
def rY (op:Int) (a b:bA):gN:=
 if op=8 then lA gU a b else if op=9 then lA gD a b else if op=10 then lA gV a b else if op=11 then qc a b else if op=12 then jx a b
 else if op=20 then fQ (if b.1<a.1 then b.1 else a.1,if b.2.1<a.2.1 then b.2.1 else a.2.1,())else if op=21 then fQ (if b.1>a.1 then b.1 else a.1,if b.2.1>a.2.1 then b.2.1 else a.2.1,())else fQ (vm op a b)
def oP (k:Nat) (a:bA):Lp k (a,())=some ((fQ a,()),((),())):=by simp[Lp,fQ]
def GX (d:200<=k) (op:Int) {a b:bA} (e:bw a) (c:bw b):JX k (op,a,b,())=some ((rY op a b,()),((),(),(),())):=by
 simp only[JX,bP,CF d e c,rV d e c,CG d e c,CI d e c,CJ c,oP,xQ (show 2<=k by omega),aa,rY]
 repeat (split;rfl)
 rfl
def AW (op:Int) {a b:bA} (c:bw a) (d:bw b):nE (rY op a b):=by
 unfold rY;split
 ·exact px AT c d
 split
 ·exact px py c d
 split
 ·exact px AU c d
 split
 ·exact GV c d
 split
 ·exact GW c
 split
 ·refine⟨?_,?_⟩<;>(unfold fQ;simp only;split)
  ·exact d.1
  ·exact c.1
  ·exact d.2
  ·exact c.2
 split
 ·refine⟨?_,?_⟩<;>(unfold fQ;simp only;split)
  ·exact d.1
  ·exact c.1
  ·exact d.2
  ·exact c.2
 ·exact MU op a b
abbrev bU:=Int×Int×Unit
def nT (op:Int):Nat:=if op<=5 then 0 else if op<=7\/op=19 then 1 else 2
def kT (op:Int):Int:=if op=3\/op=4\/op=5 then 0 else if op<=18 then 1 else 2
def bQ (op:Int):Int:=if op=3\/op=4\/op=5 then 2 else if op<=12 then 1 else 2
def ck (d:aw) (t:bU):Bool:=
 if t.1=1 then decide (0<=t.2.1/\t.2.1<=999999999999999999)
 else if t.1=2 then decide (0<=t.2.1/\t.2.1<=(d.1.length:Int)-1)
 else if t.1=3 then decide (0<=t.2.1/\t.2.1<=(d.2.1.length:Int)-1)
 else if t.1=6 then decide (0<=t.2.1/\t.2.1<=(d.2.2.1.length:Int)-1)
 else decide (4<=t.1/\t.1<=21)&& (t.2.1==0)
def Ie (op:Int):nT op<=2:=by
 unfold nT;split
 ·omega
 ·split<;>omega
def jz {d:aw} {t:bU} (h:ck d t=true):1<=t.1/\t.1<=21:=by
 unfold ck at h;by_cases a:t.1=1
 ·omega
 by_cases b:t.1=2
 ·omega
 by_cases c:t.1=3
 ·omega
 by_cases e:t.1=6
 ·omega
 rw[a0e a,a0e b,a0e c,a0e e,a0c]at h;have:=a0z h.1;omega
def xT (k:Nat) (op:Int):D5 k (op,())=some (((nT op:Int),()),((),())):=by
 unfold D5 nT;simp only[an];by_cases a:op<=5
 ·simp[a]
 ·rw[a0e a,a0e a]
  by_cases b:op<=7
  ·simp[b]
  ·rw[a0e b]
   by_cases c:op=19
   ·subst c;simp
   ·have:(op==19)=false:=by simpa using c
    simp[this,b,c]
def GY (k:Nat) (op:Int):Jk k (op,())=some ((kT op,bQ op,()),((),())):=by
 unfold Jk kT bQ;simp only[an,bP];by_cases d:op=3
 ·subst d;simp
 by_cases e:op=4
 ·subst e;simp
 by_cases c:op=5
 ·subst c;simp
 have f:(op==5)=false:=by simpa using c
 simp only[d,e,c,f,a1z,a0d,ah,a6t];by_cases b:op<=12
 ·have a:op<=18:=by omega
  simp[b,a]
 ·by_cases a:op<=18<;>simp[b,a]
def MW (k:Nat) (d:aw) (c:eL d) (t:bU):Jl k (d,t,())=some ((ck d t,()),((),(),())):=by
 have g:=c.n0;have h:=c.n1;have n2:=c.n2;unfold Jl ck;simp only[bP,jV,aa];rw[ak (n:=(d.1.length:Int)-1) (by omega) (by omega),ak (n:=(d.2.1.length:Int)-1) (by omega) (by omega),ak (n:=(d.2.2.1.length:Int)-1) (by omega) (by omega)];by_cases a:t.1=1
 ·simp only[a0b a]
 by_cases b:t.1=2
 ·simp only[a0e a,a0b b]
 by_cases e:t.1=3
 ·simp only[a0e a,a0e b,a0b e]
 by_cases f:t.1=6
 ·simp only[a0e a,a0e b,a0e e,a0b f]
 simp only[a0e a,a0e b,a0e e,a0e f]
 cases decide (4<=t.1/\t.1<=21)<;>simp
def MX (k:Nat) (d:aw) (c:eL d) (t:bU):Ju k (d,t,())=some ((ck d t,()),((),(),())):=by
 have g:=c.n0;have h:=c.n1;have n2:=c.n2;unfold Ju ck Mo Cq;simp only[bP,cI,aa];rw[ak (n:=(d.1.length:Int)-1) (by omega) (by omega),ak (n:=(d.2.1.length:Int)-1) (by omega) (by omega),ak (n:=(d.2.2.1.length:Int)-1) (by omega) (by omega)];by_cases a:t.1=1
 ·simp only[a0b a]
 by_cases b:t.1=2
 ·simp only[a0e a,a0b b]
 by_cases e:t.1=3
 ·simp only[a0e a,a0e b,a0b e]
 by_cases f:t.1=6
 ·simp only[a0e a,a0e b,a0e e,a0b f]
 simp only[a0e a,a0e b,a0e e,a0e f]
 cases decide (4<=t.1/\t.1<=21)<;>simp
def oQ (k:Nat) (op:Int) (h:1<=op/\op<=21):Ll k (op,())=some ((List.replicate (nT op) (kT op),()),((),())):=by
 have:op=1\/op=2\/op=3\/op=4\/op=5\/op=6\/op=7\/op=8\/op=9\/op=10\/op=11\/op=12\/op=13\/op=14\/op=15\/op=16\/op=17\/op=18\/op=19\/op=20\/op=21:=by omega
 unfold Ll;simp only[cI,bP,aa];rcases this with rfl|rfl|rfl|rfl|rfl|rfl|rfl|rfl|rfl|rfl|rfl|rfl|rfl|rfl|rfl|rfl|rfl|rfl|rfl|rfl|rfl<;>simp[nT,kT,an,List.replicate]
def Kk (k:Nat) (op:Int) (h:1<=op/\op<=21):Jw k (op,())=some ((bQ op,()),((),())):=by
 have:op=1\/op=2\/op=3\/op=4\/op=5\/op=6\/op=7\/op=8\/op=9\/op=10\/op=11\/op=12\/op=13\/op=14\/op=15\/op=16\/op=17\/op=18\/op=19\/op=20\/op=21:=by omega
 unfold Jw;simp only[cI,aa];rcases this with rfl|rfl|rfl|rfl|rfl|rfl|rfl|rfl|rfl|rfl|rfl|rfl|rfl|rfl|rfl|rfl|rfl|rfl|rfl|rfl|rfl<;>simp[bQ,an]
def kH (p:List Int) (op:Int):Option (List Int):=if nT op<=p.length/\p.drop (p.length-nT op)=List.replicate (nT op) (kT op)then some (p.take (p.length-nT op)++[bQ op])else none
def f7:List Int->List bU->Option (List Int)
 |p,[]=>some p
 |p,t::r=>(kH p t.1).bind λq=>f7 q r
def qP:Option (List Int)->Int
 |some [x]=>x
 |_=>0
def bI (d:aw) (l:List bU):Int:=cond (decide (l.length<=40)&& l.all (ck d)) (qP (f7 [] l)) 0
def AX (k:Nat) (p:List Int):(br k ((p.length:Int) !=1)
 (some ((0,()),((),(),())))
 (br k (decide (0<=(0:Int)/\(0:Int)<(p.length:Int)))
 (bd k (p[(0:Int).toNat]?) λa=>
 some ((a,()),((),(),())))
 none):Option jU)=some ((qP (some p),()),((),(),())):=by
 match p with
 |[]=>simp[qP]
 |[x]=>simp[qP]
 |x::y::r=>
  have:(((x::y::r).length:Int) !=1)=true:=by simp;omega
  simp only[this,ai,qP]
def zP (k:Nat) (a b:List Int) (n:a.length<k) (t:k<=4611686018427387903):xk k (a,b,())=some ((decide (a=b),()),((),(),())):=by
 unfold xk;by_cases g:a.length=b.length
 ·have j:((a.length:Int) !=(b.length:Int))=false:=by simp[g]
  simp only[j,ah];have h:=kD (b:=xk.l0 k) (λi=>(a,b,(a.length:Int),(i:Int),())) a.length (λi=>a.getD i 0 !=b.getD i 0) (λ_=>some ((false,()),((),(),()))) (r:=some ((true,()),((),(),()))) (λG i hi=>by
   have d:i<b.length:=by omega
   have f:((i:Int)<(a.length:Int)):=by omega
   have o:(0:Int)<=(i:Int):=by omega
   have p:a.getD i 0=a[i]:=by simp[List.getD,a0a hi]
   have q:b.getD i 0=b[i]:=by simp[List.getD,a0a d]
   simp only[xk.l0,an,a0b f,a0b o,a0j,a0a hi,a0a d,aa,p,q];rw[aH]
   cases (a[i] !=b[i])<;>simp) (λG=>by
   have f:¬((a.length:Int)<(a.length:Int)):=by omega
   simp only[xk.l0,an,a0e f]) n
  rcases h with⟨i,hi,l,e⟩|⟨l,e⟩
  ·refine Eq.trans e ?_
   have c:a≠b:=by
    intro h;subst h;simp at l
   simp[c]
  ·refine Eq.trans e ?_
   have s:a=b:=by
    apply a8k g;intro i m f;have:=l i m;simp only[List.getD,a0a m,a0a f,a2r,bne_eq_false_iff_eq]at this;exact this
   simp[s]
 ·have j:((a.length:Int) !=(b.length:Int))=true:=by simp;omega
  have c:a≠b:=λh=>g (by rw[h])
  simp only[j,ai,c,a7n]
def zQ (k:Nat) (y:4194304<k) (e:k<=4611686018427387903) (d:aw) (l:List bU) (z:l.length<=40) (j:∀t∈l,ck d t=true):∀(n i f:Nat) (p:List Int),i+n=l.length->n<f->p.length<=i->aP (Gs.l0 k) f (p,l,(l.length:Int),(i:Int),())=some ((qP (f7 p (l.drop i)),()),((),(),())):=by
 intro n
 induction n with
 |zero=>
  intro i f p hi q r;obtain⟨f,rfl⟩:∃g,f=g+1:=⟨f-1,by omega⟩;have m:¬((i:Int)<(l.length:Int)):=by omega
  rw[az,a1w (by omega)];simp only[Gs.l0,an (p:=(i:Int)<(l.length:Int)),a0e m,f7];exact AX k p
 |succ n ih=>
  intro i f p hi q r;obtain⟨f,rfl⟩:∃g,f=g+1:=⟨f-1,by omega⟩;have a:i<l.length:=by omega
  have m:((i:Int)<(l.length:Int)):=by omega
  have s:(0:Int)<=(i:Int):=by omega
  have b:=jz (j l[i] (a0l a));have A:=Ie l[i].1;rw[az,a1b a];simp only[Gs.l0,an,a0b m,a0b s,a0j,a0a a,aa,oQ k l[i].1 b,Kk k l[i].1 b,a1o,f7];rw[ak (n:=(p.length:Int)-(nT l[i].1:Int)) (by omega) (by omega)];by_cases u:p.length<nT l[i].1
  ·have c1:((p.length:Int)-(nT l[i].1:Int))<0:=by omega
   have c2:¬(nT l[i].1<=p.length/\p.drop (p.length-nT l[i].1)=List.replicate (nT l[i].1) (kT l[i].1)):=by omega
   simp only[a0b c1,a0d,ai,kH,a0e c2,a5l,qP]
  ·have c1:¬((p.length:Int)-(nT l[i].1:Int))<0:=by omega
   have c2:0<=((p.length:Int)-(nT l[i].1:Int))/\((p.length:Int)-(nT l[i].1:Int))<=(p.length:Int):=by omega
   have v:((p.length:Int)-(nT l[i].1:Int)).toNat=p.length-nT l[i].1:=by omega
   have w:aO p (p.length-nT l[i].1) (p.length-(p.length-nT l[i].1))=p.drop (p.length-nT l[i].1):=by
    unfold aO;rw[a3a (by simp)]
   have et:aO p ((0:Int).toNat) (p.length-nT l[i].1-(0:Int).toNat)=p.take (p.length-nT l[i].1):=by simp[aO]
   have x:((p.take (p.length-nT l[i].1)).length+([bQ l[i].1]:List Int).length)*8<=af:=by simp[af];omega
   simp only[a0e c1,a0b c2,v,w,et,zP k (p.drop (p.length-nT l[i].1)) (List.replicate (nT l[i].1) (kT l[i].1)) (by simp;omega) e,aa,a0d,a0b x];rw[aH];by_cases c:p.drop (p.length-nT l[i].1)=List.replicate (nT l[i].1) (kT l[i].1)
   ·have o:nT l[i].1<=p.length/\p.drop (p.length-nT l[i].1)=List.replicate (nT l[i].1) (kT l[i].1):=⟨by omega,c⟩
    simp only[a0f c,a0t,ah,kH,a0b o,a0d];exact ih (i+1) f _ (by omega) (by omega) (by simp;omega)
   ·have o:¬(nT l[i].1<=p.length/\p.drop (p.length-nT l[i].1)=List.replicate (nT l[i].1) (kT l[i].1)):=λh=>c h.2
    simp only[a0n c,a0y,ai,kH,a0e o,a5l,qP]
def CL (k:Nat) (j:4194304<k) (d:aw) (e:eL d) (l:List bU) (m:l.length<=1048576):Jv k (l,(d,()),())=some ((l.all (ck d),()),((),((),()),())):=by
 obtain⟨n,g,a⟩:=fD (b:=xj.l0 k) (λi=>(l,(((d,()),()),()),(l.length:Int),(i:Int),())) l (λt=> !ck d t) (o:=((),(((d,()),()),()),())) (λG i hi=>by
  have a:((i:Int)<(l.length:Int)):=by omega
  have h:(0:Int)<=(i:Int):=by omega
  simp only[xj.l0,Mp,MX k d e,an,a0b a,a0b h,a0j,a0a hi,aa];rw[aH]
  cases ck d l[i]<;>simp) (λG=>by
  have a:¬((l.length:Int)<(l.length:Int)):=by omega
  simp only[xj.l0,an,a0e a]) (f:=k)
 unfold Jv Mq xj;have c:aP (xj.l0 k) k (l,(((d,()),()),()),(l.length:Int),0,())=some ((n,()),((),(((d,()),()),()),())):=g;simp only[c,aa,a];rw[List.not_any_eq_all_not];simp
def AY (k:Nat) (c:4194304<k) (b:k<=4611686018427387903) (d:aw) (f:eL d) (l:List bU) (g:l.length<=1048576):Gs k (d,l,())=some ((bI d l,()),((),(),())):=by
 unfold Gs bI;simp only[an];by_cases e:(l.length:Int)>40
 ·have:decide (l.length<=40)=false:=by simp;omega
  simp[a0b e,this]
 ·have a:l.length<=40:=by omega
  simp only[a0e e,CL k c d f l g,aa,a0f a,a2d]
  cases ha:l.all (ck d)with
  |false=>simp
  |true=>
   have h:=zQ k c b d l a (λt i=>a1g.1 ha t i) l.length 0 k [] (by omega) (by omega) (a5c _);simp only[a0t,ah,a1r];exact h
def zR (k:Nat) (P:4194304<k) (A:k<=4611686018427387903) (d:aw) (B:eL d) (l:List bU) (Q:l.length<=40):∀(n i f:Nat) (p:List Int),i+n=l.length->n<f->p.length<=i->aP (AF.l0 k) f (l,d,p,(i:Int),())=some ((cond ((l.drop i).all (ck d)) (qP (f7 p (l.drop i))) 0,()),((),(),())):=by
 intro n
 induction n with
 |zero=>
  intro i f p hi C D;obtain⟨f,rfl⟩:∃g,f=g+1:=⟨f-1,by omega⟩;have c:¬((i:Int)<(l.length:Int)):=by omega
  rw[az,a1w (by omega)];simp only[AF.l0,an (p:=(i:Int)<(l.length:Int)),a0e c,f7,List.all_nil,a1r];exact AX k p
 |succ n ih=>
  intro i f p hi C D;obtain⟨f,rfl⟩:∃g,f=g+1:=⟨f-1,by omega⟩;have m:i<l.length:=by omega
  have c:((i:Int)<(l.length:Int)):=by omega
  have t:(0:Int)<=(i:Int):=by omega
  have R:=Ie l[i].1;have E:((d.1,d.2.1,d.2.2.1,()):aw)=d:=rfl;rw[az,a1b m,a6f];simp only[AF.l0,an (p:=(i:Int)<(l.length:Int)),an (p:=(0:Int)<=(i:Int)),a0b c,a0b t,a0j,a0a m,aa,xT,GY,E,MW k d B,f7]
  cases ht:ck d l[i]with
  |false=>simp
  |true=>
   simp only[a0t,ah,a0d,a2d];by_cases F:p.length<nT l[i].1
   ·have c1:((p.length:Int)<(nT l[i].1:Int)):=by omega
    have c2:¬(nT l[i].1<=p.length/\p.drop (p.length-nT l[i].1)=List.replicate (nT l[i].1) (kT l[i].1)):=by omega
    simp only[a0f c1,ai,kH,a0e c2,a5l,qP]
    cases (l.drop (i+1)).all (ck d)<;>rfl
   ·have c1:¬((p.length:Int)<(nT l[i].1:Int)):=by omega
    simp only[a0n c1,ah];rw[ak (n:=(p.length:Int)-(nT l[i].1:Int)) (by omega) (by omega)];have o:=λj p H c t=>ih j f p H c t
    generalize S:aP (AF.l0 k) f=G0 at o⊢
    have q:=kD (b:=AF.l2 k G0) (λj=>(l,d,p,(i:Int),(nT l[i].1:Int),kT l[i].1,bQ l[i].1,(p.length:Int)-(nT l[i].1:Int)+(j:Int),())) (nT l[i].1) (λj=>p.getD (p.length-nT l[i].1+j) 0 !=kT l[i].1) (λ_=>some ((0,()),((),(),()))) (r:=G0 (l,d,p.take (p.length-nT l[i].1)++[bQ l[i].1],((i+1:Nat):Int),())) (λG j s=>by
     have a:p.length-nT l[i].1+j<p.length:=by omega
     have u:((p.length:Int)-(nT l[i].1:Int)+(j:Int))<(p.length:Int):=by omega
     have v:0<=((p.length:Int)-(nT l[i].1:Int)+(j:Int))/\((p.length:Int)-(nT l[i].1:Int)+(j:Int))<(p.length:Int):=by omega
     have I:((p.length:Int)-(nT l[i].1:Int)+(j:Int)).toNat=p.length-nT l[i].1+j:=by omega
     have J:p.getD (p.length-nT l[i].1+j) 0=p[p.length-nT l[i].1+j]:=by simp[List.getD,a0a a]
     simp only[AF.l2,an,a0b u,a0b v,I,a0a a,aa,J];rw[ak (n:=(p.length:Int)-(nT l[i].1:Int)+(j:Int)+1) (by omega) (by omega)];have K:(p.length:Int)-(nT l[i].1:Int)+(j:Int)+1=(p.length:Int)-(nT l[i].1:Int)+((j+1:Nat):Int):=by omega
     rw[K]
     cases (p[p.length-nT l[i].1+j] !=kT l[i].1)<;>simp) (λG=>by
     have u:¬((p.length:Int)-(nT l[i].1:Int)+(nT l[i].1:Int))<(p.length:Int):=by omega
     have v:0<=((p.length:Int)-(nT l[i].1:Int))/\((p.length:Int)-(nT l[i].1:Int))<=(p.length:Int):=by omega
     have L:((p.length:Int)-(nT l[i].1:Int)).toNat=p.length-nT l[i].1:=by omega
     have et:aO p ((0:Int).toNat) (p.length-nT l[i].1-(0:Int).toNat)=p.take (p.length-nT l[i].1):=by simp[aO]
     have M:((p.take (p.length-nT l[i].1)).length+([bQ l[i].1]:List Int).length)*8<=af:=by simp[af];omega
     simp only[AF.l2,an,a0e u];rw[ak (n:=(p.length:Int)-(nT l[i].1:Int)) (by omega) (by omega)];simp only[a0b v,L,et,a0b M];rw[aH]) (f:=k) (by omega)
    have N:(p.length:Int)-(nT l[i].1:Int)+((0:Nat):Int)=(p.length:Int)-(nT l[i].1:Int):=by omega
    simp only[N]at q;rcases q with⟨j,s,w,e⟩|⟨w,e⟩
    ·refine Eq.trans e ?_
     have a:p.length-nT l[i].1+j<p.length:=by omega
     have x:¬(nT l[i].1<=p.length/\p.drop (p.length-nT l[i].1)=List.replicate (nT l[i].1) (kT l[i].1)):=by
      rintro⟨_,h⟩
      have y:=a1x (λz=>z[j]?) h;simp only[a2x,a0a a,a6i,a0b s,a0i]at y;simp[List.getD,a0a a,y]at w
     simp only[kH,a0e x,a5l,qP]
     cases (l.drop (i+1)).all (ck d)<;>rfl
    ·refine Eq.trans e ?_
     have x:nT l[i].1<=p.length/\p.drop (p.length-nT l[i].1)=List.replicate (nT l[i].1) (kT l[i].1):=by
      refine⟨by omega,?_⟩;apply a8k (by simp;omega);intro j y O;have s:j<nT l[i].1:=by simpa using O
      have a:p.length-nT l[i].1+j<p.length:=by omega
      have:=w j s;simp only[List.getD,a0a a,a2r,bne_eq_false_iff_eq]at this;simp[this]
     simp only[kH,a0b x,a0d];exact o (i+1) _ (by omega) (by omega) (by simp;omega)
def AZ (k:Nat) (e:4194304<k) (b:k<=4611686018427387903) (d:aw) (f:eL d) (l:List bU) (c:aY d=true):AF k (d,l,())=some ((bI d l,()),((),(),())):=by
 unfold AF bI;simp only[lw k e d f,c,aa,a0t,ah,a0d,an];by_cases g:(l.length:Int)>40
 ·have:decide (l.length<=40)=false:=by simp;omega
  simp[a0b g,this]
 ·have a:l.length<=40:=by omega
  have h:=zR k e b d f l a l.length 0 k [] (by omega) (by omega) (a5c _);simp only[a0e g,a0f a,a2d];exact h
abbrev aT:=List Int×List Bool×List (List Int)×Unit
structure Ql (s:aT):Prop where
 n0:s.1.length<=1048576
 n1:s.2.1.length<=1048576
 n2:s.2.2.1.length<=1048576
 m2:∀x∈s.2.2.1,x.length<=1048576
abbrev O0:Kd:= .cons (.sl false (.int .i64)) (.cons (.sl false .bool) (.cons (.sl false (.sl false (.int .i64))) .nil))
def iP (b:Bool):Int:=cond b 1 0
def eU (op a b:Int):Bool:=if op=13 then decide (a<b)else if op=14 then decide (a<=b)else if op=15 then a==b else if op=16 then a !=b else if op=17 then decide (a>b)else decide (a>=b)
def gO (p:Int×Int):Int×Int:=if p.2=0 then(p.1,0)else(0,6)
def i6 (op a b:Int):Int×Int:=
 if op=8 then gO (cN (a+b))else if op=9 then gO (cN (a-b))else if op=10 then gO (cN (a*b))
 else if op=11 then(if b=0 then(0,4)else gO (du a b))else if op=12 then(if b=0 then(0,4)else(pQ a b,0))
 else if op=20 then(if b<a then b else a,0)else if op=21 then(if b>a then b else a,0)else(iP (eU op a b),0)
def i7 (k:Nat) (b:Bool):zE k (b,())=some ((iP b,()),((),())):=by
 unfold zE
 cases b<;>simp[iP]
def CM (k:Nat) (b:Bool):Jp k (b,())=some ((iP b,()),((),())):=by
 unfold Jp
 cases b<;>simp[iP]
def Eu (k:Nat) (op a b:Int):Gx k (op,a,b,())=some ((eU op a b,()),((),(),(),())):=by
 unfold Gx eU;simp only[bP];split
 ·rfl
 split
 ·rfl
 split
 ·rfl
 split
 ·rfl
 split<;>rfl
def MY (k:Nat) (op a b:Int):Gq k (op,a,b,())=some ((eU op a b,()),((),(),(),())):=by
 unfold Gq eU;simp only[bP];split
 ·rfl
 split
 ·rfl
 split
 ·rfl
 split
 ·rfl
 split<;>rfl
def xU (k:Nat) (p:Int×Int):Ln k (p.1,p.2,())=some (((gO p).1,(gO p).2,()),((),(),())):=by
 unfold Ln gO;by_cases h:p.2=0
 ·simp[h]
 ·have:(p.2 !=0)=true:=by simpa using h
  simp[this,h]
def MZ (k:Nat) (op:Int) (h:ar a) (j:ar b):Jz k (op,a,b,())=some (((i6 op a b).1,(i6 op a b).2,()),((),(),(),())):=by
 unfold Jz i6;simp only[bP,xF k h j,qJ k h j,xJ k h j,xK k h,xM,xU,Eu,i7,aa];by_cases i:op=8
 ·simp only[a0b i]
 by_cases l:op=9
 ·simp only[a0e i,a0b l]
 by_cases c:op=10
 ·simp only[a0e i,a0e l,a0b c]
 by_cases d:op=20
 ·subst d;simp
 by_cases e:op=21
 ·subst e;simp
 by_cases f:op=11
 ·subst f
  by_cases m:b=0<;>simp[m]
 by_cases g:op=12
 ·subst g
  by_cases m:b=0<;>simp[m]
 simp only[a0e i,a0e l,a0e c,a0e d,a0e e,a0e f,a0e g]
def zS (n:Int):Prop:=n=0\/n=1
def M0 (k:Nat) (op:Int) (j:ar a) (m:ar b) (d:op=20->zS a/\zS b):Gr k (op,a,b,())=some (((i6 op a b).1,(i6 op a b).2,()),((),(),(),())):=by
 have n:∀p:Int×Int,(br k (p.2 !=0) (some ((0,6,()),((),(),(),()))) (some ((p.1,0,()),((),(),(),()))):Option Jb)=some (((gO p).1,(gO p).2,()),((),(),(),())):=by
  intro p;unfold gO;by_cases h:p.2=0
  ·simp[h]
  ·have:(p.2 !=0)=true:=by simpa using h
   simp[this,h]
 have r:((0:Int) !=0)=false:=rfl;unfold Gr i6;simp only[bP,GL k j m,xG k j m,GN k j m,xL k j,GO,MY,CM,aa,r,ah,n];by_cases l:op=8
 ·simp only[a0b l]
 by_cases o:op=9
 ·simp only[a0e l,a0b o]
 by_cases e:op=10
 ·simp only[a0e l,a0e o,a0b e]
 by_cases c:op=20
 ·obtain⟨s,t⟩:=d c
  subst c;rcases s with rfl|rfl<;>rcases t with rfl|rfl<;>simp<;>decide
 by_cases f:op=21
 ·subst f;simp
 by_cases g:op=11
 ·subst g
  by_cases q:b=0<;>simp[q]
 by_cases i:op=12
 ·subst i
  by_cases q:b=0<;>simp[q]
 simp only[a0e l,a0e o,a0e e,a0e c,a0e f,a0e g,a0e i]
def kJ {p:Int×Int} (h:ar p.1):ar (gO p).1:=by
 unfold gO;split
 ·exact h
 ·simp[ar]
def jm (b:Bool):zS (iP b):=by cases b<;>simp[zS,iP]
def lZ {n:Int} (h:zS n):ar n:=by rcases h with rfl|rfl<;>simp[ar]
def Kl (op:Int) (c:ar a) (d:ar b):ar (i6 op a b).1:=by
 have z:ar 0:=by simp[ar]
 unfold i6;split
 ·exact kJ (gr _)
 split
 ·exact kJ (gr _)
 split
 ·exact kJ (gr _)
 split
 ·split
  ·exact z
  ·refine kJ ?_
   unfold du;split
   ·exact z
   ·exact gr _
 split
 ·split
  ·exact z
  ·exact tl c
 split
 ·dsimp only;split<;>assumption
 split
 ·dsimp only;split<;>assumption
 ·exact lZ (jm _)
def M1 (op:Int) (d:13<=op) (c:19<op->zS a/\zS b):zS (i6 op a b).1:=by
 unfold i6;rw[ifNegQ,ifNegQ,ifNegQ,ifNegQ,ifNegQ];split
 ·obtain⟨e,f⟩:=c (by omega)
  dsimp only;split<;>assumption
 split
 ·obtain⟨e,f⟩:=c (by omega)
  dsimp only;split<;>assumption
 ·exact jm _
def pT (s:aT) (t:bU):Int:=if t.1=1 then t.2.1 else if t.1=2 then s.1.getD t.2.1.toNat 0 else if t.1=3 then iP (s.2.1.getD t.2.1.toNat false)else iP (t.1==4)
def jI (s:aT) (n:Int):List Int:=s.2.2.1.getD n.toNat []
def lC (s:aT) (t:bU) (a:Int):Int×Int:=
 if t.1=6 then(if 0<=a/\a<=((jI s t.2.1).length:Int)-1 then((jI s t.2.1).getD a.toNat 0,0)else(0,5))
 else if t.1=7 then gO (cN (0-a))else(wrap .i64 (1-a),0)
def mU (s:aT) (t:bU) (a b:Int):Int×Int:=if nT t.1=0 then(pT s t,0)else if nT t.1=1 then lC s t a else i6 t.1 a b
structure lh (d:aw) (s:aT):Prop where
 n0:s.1.length=d.1.length
 n1:s.2.1.length=d.2.1.length
 n2:s.2.2.1.length=d.2.2.1.length
 f0:∀x∈s.1,ar x
 f2:∀r∈s.2.2.1,∀x∈r,ar x
 m2:∀r∈s.2.2.1,r.length<=1048576
def RV (h:nT op=0):op<=5:=by
 unfold nT at h;split at h
 ·assumption
 ·split at h<;>omega
def Rg (h:nT op=1):op=6\/op=7\/op=19:=by
 unfold nT at h;split at h
 ·omega
 ·split at h
  ·omega
  ·omega
def Rh (a:¬nT op=0) (b:¬nT op=1):nT op=2:=by
 have:=Ie op;omega
def mV {d:aw} {t:bU} (h:ck d t=true) (a:t.1=2):0<=t.2.1/\t.2.1.toNat<d.1.length:=by
 unfold ck at h;rw[ifNegQ,a0b a]at h;have:=a0z h;omega
def rZ {d:aw} {t:bU} (h:ck d t=true) (a:t.1=3):0<=t.2.1/\t.2.1.toNat<d.2.1.length:=by
 unfold ck at h;rw[ifNegQ,ifNegQ,a0b a]at h;have:=a0z h;omega
def qQ {d:aw} {t:bU} (h:ck d t=true) (a:t.1=6):0<=t.2.1/\t.2.1.toNat<d.2.2.1.length:=by
 unfold ck at h;rw[ifNegQ,ifNegQ,ifNegQ,a0b a]at h;have:=a0z h;omega
def If {d:aw} {t:bU} (h:ck d t=true) (a:t.1=1):ar t.2.1:=by
 unfold ck at h;rw[a0b a]at h;have:=a0z h;unfold ar;omega
def M2 {d:aw} {t:bU} (h:ck d t=true) (a:t.1≠1) (b:t.1≠2) (c:t.1≠3) (e:t.1≠6):t.2.1=0:=by
 unfold ck at h;rw[a0e a,a0e b,a0e c,a0e e,a0c]at h;simpa using h.2
def ay {l:List α} (h:i<l.length) (z:α):l.getD i z=l[i]:=by simp[List.getD,a0a h]
def M3 (k:Nat) {d:aw} {s:aT} (h:lh d s) {t:bU} (i:ck d t=true):Gv k (s,t,())=some ((pT s t,()),((),(),())):=by
 unfold Gv pT;simp only[bP,i7,aa];by_cases b:t.1=1
 ·simp only[a0b b]
 by_cases c:t.1=2
 ·obtain⟨e,f⟩:=mV i c
  have a:t.2.1.toNat<s.1.length:=by rw[h.n0];exact f
  simp only[a0e b,a0b c,an,a0b e,a0a a,aa,ay a]
 by_cases g:t.1=3
 ·obtain⟨e,f⟩:=rZ i g
  have a:t.2.1.toNat<s.2.1.length:=by rw[h.n1];exact f
  simp only[a0e b,a0e c,a0b g,an,a0b e,a0a a,aa,ay a]
 simp only[a0e b,a0e c,a0e g]
def Ri (k:Nat) {d:aw} {s:aT} (g:lh d s) {t:bU} (j:ck d t=true) (l:ar a):Gw k (s,t,a,())=some (((lC s t a).1,(lC s t a).2,()),((),(),(),())):=by
 unfold Gw lC jI;simp only[bP,qJ k (a:=0) (b:=a) ⟨by omega,by omega⟩ l,xU,aa];by_cases e:t.1=6
 ·obtain⟨m,o⟩:=qQ j e
  have f:t.2.1.toNat<s.2.2.1.length:=by rw[g.n2];exact o
  have p:=g.m2 _ (a0l f);unfold Lm;simp only[a0b e,an,a0b m,a0a f,aa,ay f,cI];rw[ak (n:=((s.2.2.1[t.2.1.toNat]).length:Int)-1) (by omega) (by omega)];by_cases c:0<=a/\a<=((s.2.2.1[t.2.1.toNat]).length:Int)-1
  ·have h:a.toNat<(s.2.2.1[t.2.1.toNat]).length:=by omega
   simp only[a0f c,a0t,ah,a0b c,a0b c.1,a0a h,aa,ay h]
  ·simp only[a0n c,a0y,ai,a0e c]
 by_cases i:t.1=7
 ·simp only[a0e e,a0b i]
 simp only[a0e e,a0e i]
def O1 {d:aw} {s:aT} (e:lh d s) {t:bU} (c:ck d t=true) (f:nT t.1=0):ar (pT s t)/\(bQ t.1=2->zS (pT s t)):=by
 have k:=RV f;have g:=jz c;unfold pT;by_cases a:t.1=1
 ·rw[a0b a]
  exact⟨If c a,λh=>by rw[a]at h;simp[bQ]at h⟩
 rw[a0e a];by_cases b:t.1=2
 ·obtain⟨l,i⟩:=mV c b
  have j:t.2.1.toNat<s.1.length:=by rw[e.n0];exact i
  rw[a0b b,ay j];exact⟨e.f0 _ (a0l _),λh=>by rw[b]at h;simp[bQ]at h⟩
 rw[a0e b];split
 ·exact⟨lZ (jm _),λ_=>jm _⟩
 ·exact⟨lZ (jm _),λ_=>jm _⟩
def O2 {d:aw} {s:aT} (b:lh d s) {t:bU} (c:ck d t=true) (e:nT t.1=1) (k:ar a) (f:t.1=19->zS a):ar (lC s t a).1/\(bQ t.1=2->zS (lC s t a).1):=by
 have z:ar 0:=by simp[ar]
 unfold lC jI;rcases Rg e with h6|h7|h19
 ·rw[a0b h6]
  obtain⟨l,g⟩:=qQ c h6;have i:t.2.1.toNat<s.2.2.1.length:=by rw[b.n2];exact g
  rw[ay i];refine⟨?_,λh=>by rw[h6]at h;simp[bQ]at h⟩;split
  ·rename_i m
   have j:a.toNat<(s.2.2.1[t.2.1.toNat]).length:=by omega
   rw[ay j];exact b.f2 _ (a0l _) _ (a0l _)
  ·exact z
 ·rw[ifNegQ,a0b h7]
  exact⟨kJ (gr _),λh=>by rw[h7]at h;simp[bQ]at h⟩
 ·rw[ifNegQ,ifNegQ]
  have:zS (wrap .i64 (1-a)):=by
   rcases f h19 with rfl|rfl
   ·right;rfl
   ·left;rfl
  exact⟨lZ this,λ_=>this⟩
abbrev Qm:=dM×dM×List kF×Bool×List bA×List bA×Int×Unit
def iI (d:aw) (e:bh) (leaf:Int):Qm:=(d.1,d.2.1,d.2.2.1,e.1,e.2.1,e.2.2.1,leaf,())
def tu (leaf n:Int):Int:=wrap .i64 (((BitVec.ofInt 64 (leaf.fdiv (2^(min n.toNat 64)))&&& BitVec.ofInt 64 1).toNat:Int))
def fJ (e:bh) (leaf:Int) (t:bU):bA:=if t.1=1 then(t.2.1,t.2.1,())else if t.1=2 then e.2.1.getD t.2.1.toNat (0,0,())else if t.1=3 then(tu leaf t.2.1,tu leaf t.2.1,())else(iP (t.1==4),iP (t.1==4),())
def pz (x:kF):bA:=(0,wrap .i64 (x.2.1-1),())
def iB (x:kF) (a:bA):Int:=cond (AM a (pz x)) 0 2
def fR (x:kF) (a:bA):Bool:=(dG a (pz x)).2.1
def A0 (k:Nat) (d:aw) (b:0<=v) {x:kF} (c:d.2.2.1[v.toNat]?=some x) (a:bA):Cv k ((d.1,d.2.1,d.2.2.1,()),v,a,())=some ((iB x a,fR x a,()),((),(),(),())):=by
 simp only[Cv];rw[a0f b,c];simp only[ai,aa,jw,GQ,iB,fR,pz]
 cases AM a (0,wrap .i64 (x.2.1-1),())<;>simp
def A1 (k:Nat) {d:aw} {e:bh} (g:e.2.1.length=d.1.length) (leaf:Int) {t:bU} (h:ck d t=true):vj k (iI d e leaf,t,())=some ((fJ e leaf t,()),((),(),())):=by
 unfold vj fJ iI;simp only[bP,jy,aa];by_cases c:t.1=1
 ·rw[a0b c,a0b c]
 rw[a0e c,a0e c];by_cases a:t.1=2
 ·obtain⟨f,j⟩:=mV h a
  rw[a0b a,a0b a,a0f f];have i:t.2.1.toNat<e.2.1.length:=by omega
  simp only[ai,a0a i,aa,ay i]
 rw[a0e a,a0e a];by_cases b:t.1=3
 ·obtain⟨f,j⟩:=rZ h b
  rw[a0b b,a0b b,a0f f];simp only[ai,tu]
 rw[a0e b,a0e b];simp only[i7,aa,jy]
def Ig (d:aw) (e:bh) (t:bU) (a:bA):gN:=
 if t.1=6 then(match d.2.2.1[t.2.1.toNat]? with
  |some x=>cond (fR x a) ((e.2.2.1.getD t.2.1.toNat (0,0,())).1,(e.2.2.1.getD t.2.1.toNat (0,0,())).2.1,true,iB x a,()) (0,0,false,iB x a,())
  |none=>oO)
 else if t.1=7 then lA gD (0,0,()) a else fQ (wrap .i64 (1-a.2.1),wrap .i64 (1-a.1),())
def Qn (j:200<=k) {d:aw} {e:bh} (f:e.2.2.1.length=d.2.2.1.length) (leaf:Int) {t:bU} (l:ck d t=true) {a:bA} (m:bw a):JQ k (iI d e leaf,t,a,())=some ((Ig d e t a,()),((),(),(),())):=by
 unfold JQ Ig iI;simp only[bP];by_cases b:t.1=6
 ·obtain⟨g,n⟩:=qQ l b
  have h:d.2.2.1[t.2.1.toNat]?=some d.2.2.1[t.2.1.toNat]:=a0a n;have i:t.2.1.toNat<e.2.2.1.length:=by omega
  rw[a0b b,a0b b];simp only[A0 k d g h a,aa,h]
  cases fR d.2.2.1[t.2.1.toNat] a
  ·simp
  ·rw[a0f g]
   simp only[a0t,ah,ai,a0a i,aa,ay i,a1r]
 rw[a0e b,a0e b];by_cases c:t.1=7
 ·rw[a0b c,a0b c]
  simp only[CH j m,aa]
 ·rw[a0e c,a0e c]
  simp only[oP,aa]
def uR {d:aw} {e:bh} (a:e.2.1.length=d.1.length) (g:∀x∈e.2.1,bw x) (leaf:Int) {t:bU} (b:ck d t=true):bw (fJ e leaf t):=by
 unfold fJ;split
 ·rename_i h
  have c:ar t.2.1:=If b h;exact⟨c,c⟩
 split
 ·rename_i h
  obtain⟨i,j⟩:=mV b h;have f:t.2.1.toNat<e.2.1.length:=by omega
  rw[ay f];exact g _ (a0l f)
 split
 ·exact⟨iZ _,iZ _⟩
 ·exact⟨lZ (jm _),lZ (jm _)⟩
def Ev {d:aw} {e:bh} (b:e.2.2.1.length=d.2.2.1.length) (f:∀x∈e.2.2.1,bw x) {t:bU} (g:ck d t=true) {a:bA} (h:bw a):nE (Ig d e t a):=by
 unfold Ig;split
 ·rename_i i
  obtain⟨k,j⟩:=qQ g i;have c:t.2.1.toNat<e.2.2.1.length:=by omega
  rw[a0a j];simp only
  cases fR d.2.2.1[t.2.1.toNat] a
  ·exact⟨bM,bM⟩
  ·rw[ay c]
   exact f _ (a0l c)
 split
 ·exact px py db h
 ·exact⟨iZ _,iZ _⟩
def aV (s:aT):List Int->List bU->Int×Int
 |p,[]=>(p.getD 0 0,0)
 |p,t::r=>if(mU s t (p.getD (p.length-nT t.1) 0) (p.getD (p.length-nT t.1+1) 0)).2=0 then aV s (p.take (p.length-nT t.1)++[(mU s t (p.getD (p.length-nT t.1) 0) (p.getD (p.length-nT t.1+1) 0)).1]) r else(0,(mU s t (p.getD (p.length-nT t.1) 0) (p.getD (p.length-nT t.1+1) 0)).2)
structure oR (K p:List Int):Prop where
 len:p.length=K.length
 fit:∀v∈p,ar v
 bit:∀i,K[i]?=some 2->zS (p.getD i 0)
def i8 (h:kH K op=some K'):nT op<=K.length/\K.drop (K.length-nT op)=List.replicate (nT op) (kT op)/\K'=K.take (K.length-nT op)++[bQ op]:=by
 unfold kH at h;split at h
 ·rename_i a
  exact⟨a.1,a.2,(a1f h).symm⟩
 ·cases h
def M4 {n:Nat} (b:n<=K.length) (h:K.drop (K.length-n)=List.replicate n x) {j:Nat} (a:j<n):K[K.length-n+j]?=some x:=by
 have:=a1x (·[j]?) h;simp only[a2x,a6i,a0b a]at this;exact this
def oR.arg (b:oR K p) (h:kH K op=some K') {j:Nat} (c:j<nT op):p.length-nT op+j<p.length/\ar (p.getD (p.length-nT op+j) 0)/\(kT op=2->zS (p.getD (p.length-nT op+j) 0)):=by
 obtain⟨d,e,_⟩:=i8 h;have f:=b.len;have a:p.length-nT op+j<p.length:=by omega
 refine⟨a,?_,λg=> ?_⟩
 ·rw[ay a];exact b.fit _ (a0l _)
 ·refine b.bit _ ?_
  rw[f,M4 d e c,g]
def oR.push (b:oR K p) (h:kH K op=some K') (d:ar v) (a:bQ op=2->zS v):oR K' (p.take (p.length-nT op)++[v]):=by
 obtain⟨j,k,rfl⟩:=i8 h;have f:=b.len;refine⟨by simp;omega,λx hx=> ?_,λi hi=> ?_⟩
 ·rcases a0k.1 hx with hx|hx
  ·exact b.fit x (a4g hx)
  ·rw[a0v.1 hx];exact d
 ·by_cases c:i<K.length-nT op
  ·rw[a1i (by simp;omega),a4f,a0b c]at hi
   have a:=b.bit i hi;simp only[List.getD]at a⊢;rw[a1i (by simp;omega),a4f,ifPosQ];exact a
  ·by_cases g:i=K.length-nT op
   ·subst g
    rw[a1j (by simp)]at hi;simp at hi;simp only[List.getD];rw[f,a1j (by simp;omega)];simp;have e:K.length-nT op-min (K.length-nT op) p.length=0:=by omega
    rw[e];simpa using a hi
   ·rw[a1j (by simp;omega)]at hi
    have:i-(K.take (K.length-nT op)).length≠0:=by simp;omega
    rw[a0w (by simp;omega)]at hi
    cases hi
def Rj:kT 19=2:=by decide
def CN (h:19<op:=by omega):kT op=2:=by
 unfold kT;rw[ifNegQ,ifNegQ]
def Km (a:¬nT op=0) (h:bQ op=2):13<=op:=by
 unfold bQ at h;split at h
 ·rename_i b
  exfalso;apply a;unfold nT;rw[ifPosQ]
 ·split at h<;>omega
def CO {d:aw} {s:aT} (g:lh d s) (c:oR K p) {t:bU} (i:ck d t=true) (h:kH K t.1=some K'):ar (mU s t (p.getD (p.length-nT t.1) 0) (p.getD (p.length-nT t.1+1) 0)).1/\(bQ t.1=2->zS (mU s t (p.getD (p.length-nT t.1) 0) (p.getD (p.length-nT t.1+1) 0)).1):=by
 unfold mU;by_cases a:nT t.1=0
 ·rw[a0b a]
  exact O1 g i a
 rw[a0e a];by_cases b:nT t.1=1
 ·rw[a0b b]
  obtain⟨_,a1,f⟩:=c.arg h (j:=0) (by omega);exact O2 g i b a1 λe=>f (by rw[e];exact Rj)
 ·rw[a0e b]
  have n:=Rh a b;obtain⟨_,a1,f⟩:=c.arg h (j:=0) (by omega);obtain⟨_,k,l⟩:=c.arg h (j:=1) (by omega);exact⟨Kl _ a1 k,λm=>M1 _ (Km a m) λe=>⟨f (CN e),l (CN e)⟩⟩
def r8 (l:List α) (m:Nat):aO l ((0:Int).toNat) (m-(0:Int).toNat)=l.take m:=by
 simp only[aO];rfl
def zT (k:Nat) (hk:4194304<k) {d:aw} {s:aT} (C:lh d s) (l:List bU) (hl:l.length<=40) (D:∀t∈l,ck d t=true):∀(n i f:Nat) (p K x:List Int),i+n=l.length->n<f->p.length<=i->oR K p->f7 K (l.drop i)=some x->x≠[]->aP (Fi.l0 k) f ((s.1,s.2.1,s.2.2.1,()),p,l,(l.length:Int),(i:Int),())=some (((aV s p (l.drop i)).1,(aV s p (l.drop i)).2,()),((),(),())):=by
 intro n
 induction n with
 |zero=>
  intro i f p K x hi U V o h q;obtain⟨f,rfl⟩:∃g,f=g+1:=⟨f-1,by omega⟩;have E:l.drop i=[]:=a1w (by omega);rw[E]at h⊢;simp only[f7,a0i]at h;subst h;have c:0<p.length:=by rw[o.len];exact a6c.2 q
  rw[az];have F:¬((i:Int)<(l.length:Int)):=by omega
  have G:(0:Int)<=0/\(0:Int)<(p.length:Int):=by omega
  have W:p[(0:Int).toNat]?=some (p.getD 0 0):=by
   rw[ay c];exact a0a c
  simp only[Fi.l0,an,a0e F,a0b G,W,aa,aV]
 |succ n ih=>
  intro i f p K x hi U V o h q;obtain⟨f,rfl⟩:∃g,f=g+1:=⟨f-1,by omega⟩;have r:i<l.length:=by omega
  have E:l.drop i=l[i]::l.drop (i+1):=a1b r;have A:=D _ (a0l r);have H:=jz A;rw[E]at h⊢;simp only[f7,a1y]at h;obtain⟨X,a,h⟩:=h;obtain⟨hn,_,_⟩:=i8 a;have c:=o.len;have S:=CO C o A a;have b:=ih (i+1) f (p.take (p.length-nT l[i].1)++[(mU s l[i] (p.getD (p.length-nT l[i].1) 0) (p.getD (p.length-nT l[i].1+1) 0)).1]) X x (by omega) (by omega) (by simp;omega) (o.push a S.1 S.2) h q;have F:((i:Int)<(l.length:Int)):=by omega
  have G:(0:Int)<=(i:Int):=by omega
  have Y:wrap .i64 ((p.length:Int)-((nT l[i].1:Nat):Int))=((p.length-nT l[i].1:Nat):Int):=by rw[ak (by omega) (by omega)];omega
  have I:0<=((p.length-nT l[i].1:Nat):Int)/\((p.length-nT l[i].1:Nat):Int)<=(p.length:Int):=by omega
  have J:∀v:Int,((p.take (p.length-nT l[i].1)).length+([v]:List Int).length)*8<=af:=by intro v;simp only[a1m,a0g,a0h,af];omega
  rw[az];simp only[Fi.l0,an,a0b F,a0b G,a0j,a0a r,aa,oQ k _ H,a1o,Y,r8,a0b I,a0b (J _),bP];rw[aH];have Z:((s.1,s.2.1,s.2.2.1,()):aT)=s:=rfl;simp only[aV];by_cases B:nT l[i].1=0
  ·have y:mU s l[i] (p.getD (p.length-nT l[i].1) 0) (p.getD (p.length-nT l[i].1+1) 0)=(pT s l[i],0):=by unfold mU;rw[a0b B]
   have z0:((0:Int) !=0)=false:=rfl;have L:Gv k ((s.1,s.2.1,s.2.2.1,()),l[i],())=some ((pT s l[i],()),((),(),())):=M3 k C A;rw[a0b (show((nT l[i].1:Nat):Int)=0 by omega),L];simp only[aa,z0,ah];rw[y]at b⊢;simp only[a1s];exact b
  ·rw[a0e (show¬((nT l[i].1:Nat):Int)=0 by omega)]
   by_cases M:nT l[i].1=1
   ·have y:mU s l[i] (p.getD (p.length-nT l[i].1) 0) (p.getD (p.length-nT l[i].1+1) 0)=lC s l[i] (p.getD (p.length-nT l[i].1) 0):=by unfold mU;rw[a0e B,a0b M]
    obtain⟨u,a1,N⟩:=o.arg a (j:=0) (by omega);rw[a2z]at u a1 N;have e:0<=((p.length-nT l[i].1:Nat):Int)/\((p.length-nT l[i].1:Nat):Int)<(p.length:Int):=by omega
    have O:Gw k ((s.1,s.2.1,s.2.2.1,()),l[i],p.getD (p.length-nT l[i].1) 0,())=_:=Ri k C A a1;have P:p[p.length-nT l[i].1]?=some (p.getD (p.length-nT l[i].1) 0):=by rw[ay u];exact a0a u
    rw[a0b (show((nT l[i].1:Nat):Int)=1 by omega),a0b e,P,aa,O,aa];rw[y]at b⊢;by_cases m:(lC s l[i] (p.getD (p.length-nT l[i].1) 0)).2=0
    ·have w:((lC s l[i] (p.getD (p.length-nT l[i].1) 0)).2 !=0)=false:=by simpa using m
     simp only[w,ah,a0b m];exact b
    ·have w:((lC s l[i] (p.getD (p.length-nT l[i].1) 0)).2 !=0)=true:=by simpa using m
     simp only[w,ai,a0e m]
   ·have y:mU s l[i] (p.getD (p.length-nT l[i].1) 0) (p.getD (p.length-nT l[i].1+1) 0)=i6 l[i].1 (p.getD (p.length-nT l[i].1) 0) (p.getD (p.length-nT l[i].1+1) 0):=by unfold mU;rw[a0e B,a0e M]
    have S0:=Rh B M;obtain⟨u,a1,N⟩:=o.arg a (j:=0) (by omega);rw[a2z]at u a1 N;obtain⟨T,b1,b2⟩:=o.arg a (j:=1) (by omega);have e:0<=((p.length-nT l[i].1:Nat):Int)/\((p.length-nT l[i].1:Nat):Int)<(p.length:Int):=by omega
    have Q:wrap .i64 (((p.length-nT l[i].1:Nat):Int)+1)=((p.length-nT l[i].1+1:Nat):Int):=by rw[ak (by omega) (by omega)];omega
    have z:0<=((p.length-nT l[i].1+1:Nat):Int)/\((p.length-nT l[i].1+1:Nat):Int)<(p.length:Int):=by omega
    have P:p[p.length-nT l[i].1]?=some (p.getD (p.length-nT l[i].1) 0):=by rw[ay u];exact a0a u
    have R:p[p.length-nT l[i].1+1]?=some (p.getD (p.length-nT l[i].1+1) 0):=by rw[ay T];exact a0a T
    rw[a0e (show¬((nT l[i].1:Nat):Int)=1 by omega),a0b e,P,aa,Q,a0b z,a0j,R,aa,MZ k _ a1 b1,aa];rw[y]at b⊢;by_cases m:(i6 l[i].1 (p.getD (p.length-nT l[i].1) 0) (p.getD (p.length-nT l[i].1+1) 0)).2=0
    ·have w:((i6 l[i].1 (p.getD (p.length-nT l[i].1) 0) (p.getD (p.length-nT l[i].1+1) 0)).2 !=0)=false:=by simpa using m
     simp only[w,ah,a0b m];exact b
    ·have w:((i6 l[i].1 (p.getD (p.length-nT l[i].1) 0) (p.getD (p.length-nT l[i].1+1) 0)).2 !=0)=true:=by simpa using m
     simp only[w,ai,a0e m]
abbrev fS:bA:=(0,0,())
def Dd (d:aw) (e:bh) (leaf:Int) (t:bU) (a b:bA):gN:=if nT t.1=0 then fQ (fJ e leaf t)else if nT t.1=1 then Ig d e t a else rY t.1 a b
def tv (d:aw) (e:bh) (leaf:Int):Int->List bA->List bU->gN
 |al,p,[]=>((p.getD 0 fS).1,(p.getD 0 fS).2.1,true,al,())
 |al,p,t::r=>
  if(Dd d e leaf t (p.getD (p.length-nT t.1) fS) (p.getD (p.length-nT t.1+1) fS)).2.2.1=true then
   tv d e leaf (en al (Dd d e leaf t (p.getD (p.length-nT t.1) fS) (p.getD (p.length-nT t.1+1) fS)).2.2.2.1) (p.take (p.length-nT t.1)++[((Dd d e leaf t (p.getD (p.length-nT t.1) fS) (p.getD (p.length-nT t.1+1) fS)).1,(Dd d e leaf t (p.getD (p.length-nT t.1) fS) (p.getD (p.length-nT t.1+1) fS)).2.1,())]) r
  else(0,0,false,en al (Dd d e leaf t (p.getD (p.length-nT t.1) fS) (p.getD (p.length-nT t.1+1) fS)).2.2.2.1,())
structure Kn (d:aw) (e:bh):Prop where
 ints:e.2.1.length=d.1.length
 arrs:e.2.2.1.length=d.2.2.1.length
 fi:∀x∈e.2.1,bw x
 fa:∀x∈e.2.2.1,bw x
def pA {p:List bA} (h:∀x∈p,bw x) (i:Nat):bw (p.getD i fS):=by
 by_cases hi:i<p.length
 ·rw[ay hi];exact h _ (a0l hi)
 ·have:p.getD i fS=fS:=by simp[List.getD,a0w (a5m hi)]
  rw[this];exact db
def M5 {d:aw} {e:bh} (c:Kn d e) (leaf:Int) {t:bU} (f:ck d t=true) {a b:bA} (g:bw a) (h:bw b):nE (Dd d e leaf t a b):=by
 unfold Dd;split
 ·exact uR c.ints c.fi leaf f
 split
 ·exact Ev c.arrs c.fa f g
 ·exact AW _ g h
def CP (k:Nat) (hk:4194304<k) {d:aw} {e:bh} (A:Kn d e) (leaf:Int) (l:List bU) (hl:l.length<=40) (B:∀t∈l,ck d t=true):∀(n i f:Nat) (p:List bA) (K q:List Int) (al:Int),i+n=l.length->n<f->p.length<=i->p.length=K.length->(∀x∈p,bw x)->f7 K (l.drop i)=some q->q≠[]->aP (Fj.l0 k) f ((d.1,d.2.1,d.2.2.1,e.1,e.2.1,e.2.2.1,leaf,()),(0,0,false,0,()),p,al,l,(l.length:Int),(i:Int),())=some ((tv d e leaf al p (l.drop i),()),((),(),())):=by
 intro n
 induction n with
 |zero=>
  intro i f p K q al hi T U P a c m;obtain⟨f,rfl⟩:∃g,f=g+1:=⟨f-1,by omega⟩;have C:l.drop i=[]:=a1w (by omega);rw[C]at c⊢;simp only[f7,a0i]at c;subst c;have h:0<p.length:=by rw[P];exact a6c.2 m
  rw[az];have D:¬((i:Int)<(l.length:Int)):=by omega
  have E:(0:Int)<=0/\(0:Int)<(p.length:Int):=by omega
  have V:p[(0:Int).toNat]?=some (p.getD 0 fS):=by
   rw[ay h];exact a0a h
  simp only[Fj.l0,an,a0e D,a0b E,V,aa,tv]
 |succ n ih=>
  intro i f p K q al hi T U P a c m;obtain⟨f,rfl⟩:∃g,f=g+1:=⟨f-1,by omega⟩;have o:i<l.length:=by omega
  have C:l.drop i=l[i]::l.drop (i+1):=a1b o;have y:=B _ (a0l o);have F:=jz y;rw[C]at c⊢;simp only[f7,a1y]at c;obtain⟨W,G,c⟩:=c;obtain⟨hn,_,H⟩:=i8 G;have X:=M5 A leaf y (pA a (p.length-nT l[i].1)) (pA a (p.length-nT l[i].1+1));have b:=λI=>ih (i+1) f (p.take (p.length-nT l[i].1)++[((Dd d e leaf l[i] (p.getD (p.length-nT l[i].1) fS) (p.getD (p.length-nT l[i].1+1) fS)).1,(Dd d e leaf l[i] (p.getD (p.length-nT l[i].1) fS) (p.getD (p.length-nT l[i].1+1) fS)).2.1,())]) W q I (by omega) (by omega) (by simp;omega) (by rw[H];simp;omega) (λx hx=>by
   rcases a0k.1 hx with hx|hx
   ·exact a x (a4g hx)
   ·rw[a0v.1 hx];exact X) c m
  have D:((i:Int)<(l.length:Int)):=by omega
  have E:(0:Int)<=(i:Int):=by omega
  have Y:wrap .i64 ((p.length:Int)-((nT l[i].1:Nat):Int))=((p.length-nT l[i].1:Nat):Int):=by rw[ak (by omega) (by omega)];omega
  have J:0<=((p.length-nT l[i].1:Nat):Int)/\((p.length-nT l[i].1:Nat):Int)<=(p.length:Int):=by omega
  have L:∀v:bA,((p.take (p.length-nT l[i].1)).length+([v]:List bA).length)*16<=af:=by intro v;simp only[a1m,a0g,a0h,af];omega
  rw[az];simp only[Fj.l0,an,a0b D,a0b E,a0j,a0a o,aa,oQ k _ F,a1o,Y,r8,a0b J,a0b (L _),bP];rw[aH];simp only[tv];by_cases z:nT l[i].1=0
  ·have r:Dd d e leaf l[i] (p.getD (p.length-nT l[i].1) fS) (p.getD (p.length-nT l[i].1+1) fS)=fQ (fJ e leaf l[i]):=by unfold Dd;rw[a0b z]
   have s:=A1 k A.ints leaf y;unfold iI at s;rw[a0b (show((nT l[i].1:Nat):Int)=0 by omega),s];rw[r]at b⊢;simp only[aa,oP,fQ,a0t,ah,a1s];exact b _
  ·rw[a0e (show¬((nT l[i].1:Nat):Int)=0 by omega)]
   have Q:p.length-nT l[i].1<p.length:=by omega
   have a1:=pA a (p.length-nT l[i].1);have R:p[p.length-nT l[i].1]?=some (p.getD (p.length-nT l[i].1) fS):=by rw[ay Q];exact a0a Q
   have j:0<=((p.length-nT l[i].1:Nat):Int)/\((p.length-nT l[i].1:Nat):Int)<(p.length:Int):=by omega
   by_cases M:nT l[i].1=1
   ·have r:Dd d e leaf l[i] (p.getD (p.length-nT l[i].1) fS) (p.getD (p.length-nT l[i].1+1) fS)=Ig d e l[i] (p.getD (p.length-nT l[i].1) fS):=by unfold Dd;rw[a0e z,a0b M]
    have u:=Qn (k:=k) (by omega) A.arrs leaf y a1;unfold iI at u;rw[a0b (show((nT l[i].1:Nat):Int)=1 by omega),a0b j,R,aa,u,aa];rw[r]at b⊢
    cases hc:(Ig d e l[i] (p.getD (p.length-nT l[i].1) fS)).2.2.1
    ·simp only[hc,a0y,ai,a0u,a1z]
     rfl
    ·simp only[hc,a0t,ah,a1s]
     exact b _
   ·have r:Dd d e leaf l[i] (p.getD (p.length-nT l[i].1) fS) (p.getD (p.length-nT l[i].1+1) fS)=rY l[i].1 (p.getD (p.length-nT l[i].1) fS) (p.getD (p.length-nT l[i].1+1) fS):=by unfold Dd;rw[a0e z,a0e M]
    have Z:=Rh z M;have S:p.length-nT l[i].1+1<p.length:=by omega
    have b1:=pA a (p.length-nT l[i].1+1);have N:wrap .i64 (((p.length-nT l[i].1:Nat):Int)+1)=((p.length-nT l[i].1+1:Nat):Int):=by rw[ak (by omega) (by omega)];omega
    have w:0<=((p.length-nT l[i].1+1:Nat):Int)/\((p.length-nT l[i].1+1:Nat):Int)<(p.length:Int):=by omega
    have O:p[p.length-nT l[i].1+1]?=some (p.getD (p.length-nT l[i].1+1) fS):=by rw[ay S];exact a0a S
    rw[a0e (show¬((nT l[i].1:Nat):Int)=1 by omega),a0b j,R,aa,N,a0b w,a0j,O,aa,GX (by omega) _ a1 b1,aa];rw[r]at b⊢
    cases hc:(rY l[i].1 (p.getD (p.length-nT l[i].1) fS) (p.getD (p.length-nT l[i].1+1) fS)).2.2.1
    ·simp only[hc,a0y,ai,a0u,a1z]
     rfl
    ·simp only[hc,a0t,ah,a1s]
     exact b _
inductive Ex where
 |leaf (t:bU)
 |one (t:bU) (a:Ex)
 |two (t:bU) (a b:Ex)
namespace Ex
def flat:Ex->List bU
 | .leaf t=>[t]
 | .one t a=>a.flat++[t]
 | .two t a b=>a.flat++(b.flat++[t])
def tok:Ex->bU
 | .leaf t=>t
 | .one t _=>t
 | .two t _ _=>t
def kind (x:Ex):Int:=bQ x.tok.1
def size:Ex->Nat
 | .leaf _=>1
 | .one _ a=>a.size+1
 | .two _ a b=>a.size+b.size+1
def depth:Ex->Nat
 | .leaf _=>1
 | .one _ a=>a.depth+1
 | .two _ a b=>max a.depth b.depth+1
def Ok (d:aw):Ex->Prop
 | .leaf t=>nT t.1=0/\ck d t=true
 | .one t a=>nT t.1=1/\ck d t=true/\a.kind=kT t.1/\a.Ok d
 | .two t a b=>nT t.1=2/\ck d t=true/\a.kind=kT t.1/\b.kind=kT t.1/\a.Ok d/\b.Ok d
def flat_len:(x:Ex)->x.flat.length=x.size
 | .leaf _=>rfl
 | .one _ a=>by simp[flat,size,flat_len a]
 | .two _ a b=>by simp[flat,size,flat_len a,flat_len b];omega
def size_pos:(x:Ex)->0<x.size
 | .leaf _=>by simp[size]
 | .one _ a=>by simp[size]
 | .two _ a b=>by simp[size]
def depth_le:(x:Ex)->x.depth<=x.size
 | .leaf _=>by simp[size,depth]
 | .one _ a=>by have:=depth_le a;simp[size,depth];omega
 | .two _ a b=>by have:=depth_le a;have:=depth_le b;simp[size,depth];omega
def Ok.tokOk {d:aw} {x:Ex} (h:x.Ok d):Go.Pev.F.ck d x.tok=true:=by
 cases x with
 |leaf t=>exact h.2
 |one t a=>exact h.2.1
 |two t a b=>exact h.2.1
def Ok.all {d:aw}: {x:Ex}->x.Ok d->∀t∈x.flat,Go.Pev.F.ck d t=true
 | .leaf t,h,s,hs=>by simp[flat]at hs;rw[hs];exact h.2
 | .one t a,h,s,hs=>by
  simp[flat]at hs;rcases hs with hs|hs
  ·exact Ok.all h.2.2.2 s hs
  ·rw[hs];exact h.2.1
 | .two t a b,h,s,hs=>by
  simp[flat]at hs;rcases hs with hs|hs|hs
  ·exact Ok.all h.2.2.2.2.1 s hs
  ·exact Ok.all h.2.2.2.2.2 s hs
  ·rw[hs];exact h.2.1
end Ex
def nF (xs:List Ex):List bU:=xs.flatMap Ex.flat
def Rk {l:List α} (h:l.length=1):∃a,l=[a]:=List.length_eq_one_iff.1 h
def Rl {l:List α} (h:l.length=2):∃a b,l=[a,b]:=by
 match l,h with
 |[a,b],_=>exact⟨a,b,rfl⟩
def GZ {d:aw}:∀(r:List bU) (xs:List Ex) (i:List Int),(∀x∈xs,x.Ok d)->(∀t∈r,ck d t=true)->f7 (xs.map Ex.kind) r=some i->∃ys:List Ex,(∀y∈ys,y.Ok d)/\i=ys.map Ex.kind/\nF ys=nF xs++r:=by
 intro r
 induction r with
 |nil=>
  intro xs i j _ h;simp only[f7,a0i]at h;exact⟨xs,j,h.symm,by simp⟩
 |cons t r ih=>
  intro xs i j B h;simp only[f7,a1y]at h;obtain⟨C,o,h⟩:=h;obtain⟨D,e,p⟩:=i8 o;have q:=B t (by simp);simp only[a2u]at D e p;have c:xs=xs.take (xs.length-nT t.1)++xs.drop (xs.length-nT t.1):=(a3r _ _).symm;have l:(xs.drop (xs.length-nT t.1)).length=nT t.1:=by rw[a2w];omega
  rw[<-List.map_drop]at e;rw[<-List.map_take]at p;have f:∀x:Ex,x.Ok d->x.tok=t->(nF (xs.take (xs.length-nT t.1))++x.flat=nF xs++[t])->∃ys:List Ex,(∀y∈ys,y.Ok d)/\i=ys.map Ex.kind/\nF ys=nF xs++t::r:=by
   intro x u v w;have z:C=(xs.take (xs.length-nT t.1)++[x]).map Ex.kind:=by
    rw[p,a3d];simp[Ex.kind,v]
   rw[z]at h;obtain⟨ys,k,m,E⟩:=ih _ i (λy hy=>by
    rcases a0k.1 hy with hy|hy
    ·exact j y (a4g hy)
    ·rw[a0v.1 hy];exact u) (λs o=>B s (by simp[o])) h
   refine⟨ys,k,m,?_⟩;rw[E];have:nF (xs.take (xs.length-nT t.1)++[x])=nF xs++[t]:=by rw[<-w];simp[nF]
   rw[this];simp
  by_cases A:nT t.1=0
  ·refine f (.leaf t) ⟨A,q⟩ rfl ?_
   rw[A];simp[Ex.flat]
  by_cases k:nT t.1=1
  ·obtain⟨a,g⟩:=Rk (l.trans k)
   rw[g,k]at e;simp at e;have n:a∈xs:=by rw[c,g];simp
   refine f (.one t a) ⟨k,q,e,j a n⟩ rfl ?_
   rw[g]at c
   conv=>rhs;rw[c]
   simp[nF,Ex.flat]
  ·have m:=Rh A k
   obtain⟨a,b,g⟩:=Rl (l.trans m);rw[g,m]at e;simp at e;have n:a∈xs/\b∈xs:=by rw[c,g];simp
   refine f (.two t a b) ⟨m,q,e.1,e.2,j a n.1,j b n.2⟩ rfl ?_
   rw[g]at c
   conv=>rhs;rw[c]
   simp[nF,Ex.flat]
def A2 {d:aw} {l:List bU} (h:bI d l≠0):∃x:Ex,x.Ok d/\l=x.flat/\bI d l=x.kind/\x.size<=40:=by
 unfold bI at h⊢
 cases hc:(decide (l.length<=40)&& l.all (ck d))with
 |false=>rw[hc]at h;exact absurd rfl h
 |true=>
  rw[hc]at h;simp only[a1r]at h⊢;simp only[a0c,a0q,a1g]at hc
  cases hr:f7 [] l with
  |none=>rw[hr]at h;exact absurd rfl h
  |some K=>
   obtain⟨ys,b,a,c⟩:=GZ l [] K (by simp) hc.2 hr;rw[hr]at h
   match ys,b,a,c with
   |[],_,a,_=>rw[a]at h;exact absurd rfl h
   |[y],b,a,c=>
    have e:l=y.flat:=by simpa [nF]using c.symm
    exact⟨y,b y (by simp),e,by rw[a];rfl,by rw[<-Ex.flat_len,<-e];exact hc.1⟩
   |y::z::r,_,a,_=>rw[a]at h;exact absurd rfl h
def vn (a:Int):BitVec 64:=BitVec.ofInt 64 a
def O3 (n:Int):vn (wrap .i64 n)=vn n:=by
 apply a6w;simp only[vn,a7o];rw[IntKind.wrap_i64];omega
def Qo (x:BitVec 64):vn (x.toNat:Int)=x:=by
 apply a6w;simp only[vn,a7o];have:=x.isLt;omega
def Ih (a b:Int):vn (en a b)=vn a|||vn b:=by
 unfold en;rw[O3];exact Qo _
def tw (a b:Int):en a b=wrap .i64 (((vn a|||vn b).toNat:Int)):=rfl
def ep (a b c:Int):en (en a b) c=en a (en b c):=by
 rw[tw (en a b),tw a (en b c),Ih,Ih,a7g]
def xV (a b:Int):en a b=en b a:=by
 rw[tw,tw,BitVec.or_comm]
def Ii (h:ar a):wrap .i64 (((vn a).toNat:Int))=a:=by
 obtain⟨b,c⟩:=h;rw[IntKind.wrap_i64];simp only[vn,a7o];omega
def Ew (h:ar a):en 0 a=a:=by
 have e:vn 0=0#64:=rfl;rw[tw,e,BitVec.zero_or];exact Ii h
def pB (h:ar a):en a 0=a:=by rw[xV,Ew h]
def r9 (h:ar a):en a a=a:=by
 rw[tw,a9f];exact Ii h
def sd (a b:Int):ar (en a b):=iZ _
def O4 (h:ar a) (b:Int):en a (en a b)=en a b:=by rw[<-ep,r9 h]
def cT {c:Bool} (h:c=true) (a b:α):cond c a b=a:=by subst h;rfl
def cF {c:Bool} (h:c=false) (a b:α):cond c a b=b:=by subst h;rfl
def bR (v:gN):bA:=(v.1,v.2.1,())
def aC (v:gN):Bool:=v.2.2.1
def ce (v:gN):Int:=v.2.2.2.1
def dw (al:Int) (v:gN):gN:=cond (aC v) (v.1,v.2.1,true,en al (ce v),()) (0,0,false,en al (ce v),())
def aB (d:aw) (e:bh) (leaf:Int):Ex->gN
 | .leaf t=>fQ (fJ e leaf t)
 | .one t a=>cond (aC (aB d e leaf a)) (dw (ce (aB d e leaf a)) (Ig d e t (bR (aB d e leaf a)))) (0,0,false,ce (aB d e leaf a),())
 | .two t a b=>cond (aC (aB d e leaf a))
  (cond (aC (aB d e leaf b)) (dw (en (ce (aB d e leaf a)) (ce (aB d e leaf b))) (rY t.1 (bR (aB d e leaf a)) (bR (aB d e leaf b)))) (0,0,false,en (ce (aB d e leaf a)) (ce (aB d e leaf b)),()))
  (0,0,false,ce (aB d e leaf a),())
def mW {v:gN} (h:aC v=true):dw al v=(v.1,v.2.1,true,en al (ce v),()):=by unfold dw;rw[h];rfl
def qR {v:gN} (h:aC v=false):dw al v=(0,0,false,en al (ce v),()):=by unfold dw;rw[h];rfl
def PP (F:Int->List bA->gN) (al A:Int) (p:List bA) (v:gN):(if v.2.2.1=true then F (en (en al A) v.2.2.2.1) (p++[(v.1,v.2.1,())])else(0,0,false,en (en al A) v.2.2.2.1,()))=if aC (dw A v)=true then F (en al (ce (dw A v))) (p++[bR (dw A v)])else(0,0,false,en al (ce (dw A v)),()):=by
 obtain⟨a,b,c,d,⟨⟩⟩:=v
 cases c<;>simp[dw,aC,ce,bR,ep]
def uS {A:Int} {v:gN} (h:aC (dw A v)=false):dw A v=(0,0,false,ce (dw A v),()):=by
 obtain⟨a,b,c,d,⟨⟩⟩:=v
 cases c
 ·simp[dw,aC,ce]
 ·simp[dw,aC]at h
def l7 {d:aw} {e:bh} {t:bU} {a:Ex} (h:aC (aB d e leaf a)=true):aB d e leaf (.one t a)=dw (ce (aB d e leaf a)) (Ig d e t (bR (aB d e leaf a))):=by
 conv=>lhs;unfold aB
 rw[cT h]
def pC {d:aw} {e:bh} {t:bU} {a:Ex} (h:aC (aB d e leaf a)=false):aB d e leaf (.one t a)=(0,0,false,ce (aB d e leaf a),()):=by
 conv=>lhs;unfold aB
 rw[cF h]
def pD {d:aw} {e:bh} {t:bU} {a b:Ex} (h:aC (aB d e leaf a)=false):aB d e leaf (.two t a b)=(0,0,false,ce (aB d e leaf a),()):=by
 conv=>lhs;unfold aB
 rw[cF h]
def l9 {d:aw} {e:bh} {t:bU} {a b:Ex} (h:aC (aB d e leaf a)=true) (c:aC (aB d e leaf b)=false):aB d e leaf (.two t a b)=(0,0,false,en (ce (aB d e leaf a)) (ce (aB d e leaf b)),()):=by
 conv=>lhs;unfold aB
 rw[cT h,cF c]
def ka {d:aw} {e:bh} {t:bU} {a b:Ex} (h:aC (aB d e leaf a)=true) (c:aC (aB d e leaf b)=true):aB d e leaf (.two t a b)=dw (en (ce (aB d e leaf a)) (ce (aB d e leaf b))) (rY t.1 (bR (aB d e leaf a)) (bR (aB d e leaf b))):=by
 conv=>lhs;unfold aB
 rw[cT h,cT c]
def A3 (p:List α) (a z:α):(p++[a]).getD ((p++[a]).length-1) z=a:=by
 simp[List.getD]
def mX (p:List α) (a b z:α):(p++[a]++[b]).getD ((p++[a]++[b]).length-2) z=a/\(p++[a]++[b]).getD ((p++[a]++[b]).length-2+1) z=b:=by
 constructor
 ·simp[List.getD,List.getElem?_append]
 ·simp[List.getD,List.getElem?_append]
def Ko {d:aw} (e:bh) (leaf:Int):∀(x:Ex),x.Ok d->∀(al:Int) (p:List bA) (r:List bU),tv d e leaf al p (x.flat++r)=if aC (aB d e leaf x)=true then tv d e leaf (en al (ce (aB d e leaf x))) (p++[bR (aB d e leaf x)]) r else(0,0,false,en al (ce (aB d e leaf x)),()):=by
 intro x
 induction x with
 |leaf t=>
  intro f al p r;have g:nT t.1=0:=f.1;simp only[Ex.flat,a3o,tv,Dd,g,a1s,a7l,a2a,aB,aC,fQ,bR,ce]
 |one t a ih=>
  intro f al p r;have h:nT t.1=1:=f.1;have g:¬nT t.1=0:=by omega
  simp only[Ex.flat,a1q,a3o];rw[ih f.2.2.2];by_cases c:aC (aB d e leaf a)=true
  ·rw[a0b c,l7 c]
   conv=>lhs;unfold tv
   simp only[Dd,a0e g,a0b h];rw[h,A3];have j:(p++[bR (aB d e leaf a)]).take ((p++[bR (aB d e leaf a)]).length-1)=p:=by simp
   rw[j];exact PP (λal p=>tv d e leaf al p r) al _ p _
  ·rw[a0e c,pC (by simpa using c)]
   rfl
 |two t a b iha ihb=>
  intro f al p r;have k:nT t.1=2:=f.1;have g:¬nT t.1=0:=by omega
  have h:¬nT t.1=1:=by omega
  simp only[Ex.flat,a1q,a3o];rw[iha f.2.2.2.2.1];by_cases c:aC (aB d e leaf a)=true
  ·rw[a0b c,ihb f.2.2.2.2.2]
   by_cases i:aC (aB d e leaf b)=true
   ·rw[a0b i,ka c i]
    conv=>lhs;unfold tv
    simp only[Dd,a0e g,a0e h];rw[k,(mX p _ _ _).1,(mX p _ _ _).2];have j:(p++[bR (aB d e leaf a)]++[bR (aB d e leaf b)]).take ((p++[bR (aB d e leaf a)]++[bR (aB d e leaf b)]).length-2)=p:=by simp
    rw[j];rw[ep al];exact PP (λal p=>tv d e leaf al p r) al _ p _
   ·rw[a0e i,l9 c (by simpa using i),ep]
    rfl
  ·rw[a0e c,pD (by simpa using c)]
   rfl
def uT {v:gN} (h:nE v):nE (dw al v)/\ar (ce (dw al v)):=by
 unfold dw
 cases aC v
 ·exact⟨⟨bM,bM⟩,sd _ _⟩
 ·exact⟨h,sd _ _⟩
def cO {d:aw} {e:bh} (c:Kn d e) (leaf:Int):∀ {x:Ex},x.Ok d->nE (aB d e leaf x)/\ar (ce (aB d e leaf x))
 | .leaf t,hx=>⟨uR c.ints c.fi leaf hx.2,bM⟩
 | .one t a,hx=>by
  have h:=cO c leaf hx.2.2.2;simp only[aB]
  cases aC (aB d e leaf a)
  ·exact⟨⟨bM,bM⟩,h.2⟩
  ·exact uT (Ev c.arrs c.fa hx.2.1 h.1)
 | .two t a b,hx=>by
  have h:=cO c leaf hx.2.2.2.2.1;have f:=cO c leaf hx.2.2.2.2.2;simp only[aB]
  cases aC (aB d e leaf a)
  ·exact⟨⟨bM,bM⟩,h.2⟩
  ·cases aC (aB d e leaf b)
   ·exact⟨⟨bM,bM⟩,sd _ _⟩
   ·exact uT (AW _ h.1 f.1)
def Kp {d:aw} {e:bh} {x:Ex} (h:aC (aB d e leaf x)=false):aB d e leaf x=(0,0,false,ce (aB d e leaf x),()):=by
 cases x with
 |leaf t=>exact absurd h (by simp[aB,aC,fQ])
 |one t a=>
  by_cases c:aC (aB d e leaf a)=true
  ·rw[l7 c]at h⊢
   exact uS h
  ·rw[pC (by simpa using c)]
   rfl
 |two t a b=>
  by_cases c:aC (aB d e leaf a)=true
  ·by_cases f:aC (aB d e leaf b)=true
   ·rw[ka c f]at h⊢
    exact uS h
   ·rw[l9 c (by simpa using f)]
    rfl
  ·rw[pD (by simpa using c)]
   rfl
def Kq {d:aw} {e:bh} (b:Kn d e) (leaf:Int) {x:Ex} (a:x.Ok d):tv d e leaf 0 [] x.flat=aB d e leaf x:=by
 have h:=Ko e leaf x a 0 [] [];rw[a2m]at h;rw[h,Ew (cO b leaf a).2]
 cases hl:aC (aB d e leaf x)
 ·rw[a0e (by simp)]
  exact(Kp hl).symm
 ·rw[a0b rfl]
  have:(aB d e leaf x).2.2.1=true:=hl;simp only[tv,a2j,bR,ce];simp only[List.getD,a1p,a2r];rw[<-this]
def M6 {d:aw}:∀(x:Ex),x.Ok d->∀(K:List Int) (r:List bU),f7 K (x.flat++r)=f7 (K++[x.kind]) r:=by
 intro x
 induction x with
 |leaf t=>
  intro c K r;simp[Ex.flat,f7,kH,c.1,Ex.kind,Ex.tok]
 |one t a ih=>
  intro c K r;simp only[Ex.flat,a1q,a3o];rw[ih c.2.2.2];have h:nT t.1=1:=c.1;have f:=c.2.2.1;simp[f7,kH,h,Ex.kind,Ex.tok]at f⊢;simp[f]
 |two t a b iha ihb=>
  intro c K r;simp only[Ex.flat,a1q,a3o];rw[iha c.2.2.2.2.1,ihb c.2.2.2.2.2];have i:nT t.1=2:=c.1;have f:=c.2.2.1;have g:=c.2.2.2.1;simp[f7,kH,i,Ex.kind,Ex.tok]at f g⊢;have e:List.drop (K.length+1+1-2) (K++[bQ a.tok.1,bQ b.tok.1])=[bQ a.tok.1,bQ b.tok.1]:=by simp
  have j:List.take (K.length+1+1-2) (K++[bQ a.tok.1,bQ b.tok.1])=K:=by simp
  simp[f,g]
def mY (f:4194304<k) {d:aw} {e:bh} (b:Kn d e) (leaf:Int) {x:Ex} (a:x.Ok d) (g:x.size<=40):Fj k ((d.1,d.2.1,d.2.2.1,e.1,e.2.1,e.2.2.1,leaf,()),x.flat,())=some ((aB d e leaf x,()),((),(),())):=by
 have c:=M6 x a [] [];rw[a2m]at c;have h:=CP k f b leaf x.flat (by rw[Ex.flat_len];exact g) a.all x.flat.length 0 k [] [] [x.kind] 0 (by omega) (by rw[Ex.flat_len];omega) (by simp) rfl (by simp) (by rw[a4v,c];rfl) (by simp);rw[a4v,Kq b leaf a]at h;simp only[Fj];exact h
abbrev Rm:=Int×Int×Int×Bool×List bA×List bA×Unit
instance envDec:DecidableEq bh:=λ_ _=>inferInstance
instance nodeDec:DecidableEq Rm:= @instDecidableEqProd Int _ _ (@instDecidableEqProd Int _ _ (@instDecidableEqProd Int _ _ envDec))
def xW (k:Nat) (a:List bA) (c:a.length<=1048576):GF k (a,())=some ((a,()),((),())):=by
 have b:(([]:List (Int×Int×Unit)).length+a.length)*16<=af:=by simp[af];omega
 unfold GF;simp only[an,a0b b,a2j]
 cases a with
 |nil=>simp[gZ]
 |cons p r=>simp
def qS (k:Nat) (x:bh) (a:lz x):yU k (x,())=some ((x,()),((),())):=by
 unfold yU;simp only[xW k _ a.n1,xW k _ a.n2,aa]
def bS (e:bh) (v:Int) (a:bA):bh:=(e.1,e.2.1.set v.toNat a,e.2.2.1,())
def qT (k:Nat) {e:bh} (b:lz e) (c:0<=v/\v<(e.2.1.length:Int)) (a:bA):H7 k (e,v,a,())=some ((bS e v a,()),((),(),(),())):=by
 have d:v.toNat<e.2.1.length:=by omega
 simp only[H7,qS k e b,aa];rw[a0f c,a0a d];simp only[ai,aa,bS]
def Kr {d:aw} {e:bh} (b:Kn d e) {a:bA} (c:bw a):Kn d (bS e v a):=by
 refine⟨by simp only[bS,a3j];exact b.ints,b.arrs,λx f=> ?_,b.fa⟩;rcases a1v f with h|h
 ·exact b.fi x h
 ·rw[h];exact c
def uU (a b:List bA):List bA:=List.zipWith jH a b
def qd (a b:List bA):List bA:=List.zipWith mR a b
def Ey (f:α->α->α) (a b:List α) (c:i<a.length) (d:i<b.length):List.zipWith f (a.take (i+1)) (b.take (i+1))=List.zipWith f (a.take i) (b.take i)++[f a[i] b[i]]:=by
 rw[a2n c,a2n d,List.zipWith_append (by simp;omega)];rfl
def A4 (a b:List bA) (e:a.length=b.length) (f:a.length<=1000) (g:1000<k):vk k (a,b,(),())=some ((qd a b,()),((),(),(),())):=by
 simp only[vk];refine ca (b:=vk.l0 k) (λi=>(b,(),qd (a.take i) (b.take i),a,(a.length:Int),(i:Int),())) a.length (λG i hi=> ?_) (λG=> ?_) (by omega)
 ·have c:i<b.length:=by omega
  have d:(qd (a.take i) (b.take i)).length<=1000:=by unfold qd;simp;omega
  simp only[vk.l0];rw[a0f (show(i:Int)<(a.length:Int) by omega),a0f (show(0:Int)<=(i:Int) by omega)];simp only[ai,a0j,a0a hi,a0a c,aa,uG];rw[a0f (show((qd (a.take i) (b.take i)).length+([mR a[i] b[i]]:List bA).length)*16<=af by simp only[a0g,a0h,af];omega),ai,aH (i:=i)];unfold qd;rw[Ey mR a b hi c]
 ·simp only[vk.l0]
  rw[a0n (show¬(a.length:Int)<(a.length:Int) by omega),ah,a2a,e,a2a]
def tz:(a b:List bA)->(∀x∈a,bj x=true)->(∀x∈b,bj x=true)->qd a b=uU a b
 |[],b,_,_=>by simp[qd,uU]
 |x::a,[],_,_=>by simp[qd,uU]
 |x::a,y::b,ha,hb=>by
  have ih:=tz a b (λz c=>ha z (by simp[c])) (λz c=>hb z (by simp[c]));have e:mR x y=jH x y:=by
   unfold mR co;rw[ha x (by simp),hb y (by simp)];rfl
  unfold qd uU at ih⊢;simp only[a5n,e,ih]
def fh (a b:bh):bh:=cond a.1 (cond b.1 (true,uU a.2.1 b.2.1,uU a.2.2.1 b.2.2.1,()) a) b
def uV {a b:bh} (g:lz a) (h:lz b) (i:a.1=true->b.1=true->a.2.1.length=b.2.1.length/\a.2.2.1.length=b.2.2.1.length) (c:a.2.1.length<=1000/\a.2.2.1.length<=1000) (d:1000<k) (e:(∀x∈a.2.1,bj x=true)/\∀x∈a.2.2.1,bj x=true) (f:(∀x∈b.2.1,bj x=true)/\∀x∈b.2.2.1,bj x=true):En k (a,b,(),())=some ((fh a b,()),((),(),(),())):=by
 simp only[En,qS k a g,qS k b h,aa,fh]
 cases h1:a.1
 ·simp
 ·cases h2:b.1
  ·simp
   rw[<-h1]
  ·obtain⟨l1,l2⟩:=i h1 h2
   simp only[a0t,ah,A4 _ _ l1 c.1 d,A4 _ _ l2 c.2 d,aa,tz _ _ e.1 f.1,tz _ _ e.2 f.2,a1r]
def bC:bh:=(false,[],[],())
def oS (op:Int):Int:=if op=15\/op=16 then op else if op=13 then 17 else if op=14 then 18 else if op=17 then 13 else 14
def li (x:Ex):Bool:=match x with
 | .leaf t=>t.1==2
 |_=>false
def gE (op:Int) (x:Ex) (e:bh) (v:bA):bh:=cond (li x) (cond (pS op (e.2.1.getD x.tok.2.1.toNat fS) v).2.1 (bS e x.tok.2.1 (pS op (e.2.1.getD x.tok.2.1.toNat fS) v).1) bC) e
def oT (d:aw) (leaf:Int) (op:Int) (a b:Ex) (e:bh):bh:=cond (aC (aB d e leaf a)&& aC (aB d e leaf b)) (cond (gE op a e (bR (aB d e leaf b))).1 (gE (oS op) b (gE op a e (bR (aB d e leaf b))) (bR (aB d e leaf a))) bC) bC
def iC (d:aw) (leaf:Int):Ex->Bool->bh->bh
 | .leaf t,want,e=>cond e.1 (if(fJ e leaf t).1=iP want then e else bC) bC
 | .one _ a,want,e=>cond e.1 (iC d leaf a (!want) e) bC
 | .two t a b,want,e=>cond e.1 (if 13<=t.1/\t.1<=18 then oT d leaf (cond want t.1 (31-t.1)) a b e else if(t.1==20)=want then iC d leaf b want (iC d leaf a want e)else fh (iC d leaf a want e) (iC d leaf b want e)) bC
def bi (d:aw) (e:bh):Prop:=(e.1=true/\Kn d e/\(∀x∈e.2.1,bj x=true)/\∀x∈e.2.2.1,bj x=true)\/e=bC
def dR (d:aw):bi d bC:=Or.inr rfl
def bK {d:aw} {e:bh} (h:bi d e) (a:e.1=true):Kn d e/\(∀x∈e.2.1,bj x=true)/\∀x∈e.2.2.1,bj x=true:=by
 rcases h with h|h
 ·exact h.2
 ·rw[h]at a;cases a
def Kt {d:aw} {e:bh} (h:bi d e) (a:e.1=false):e=bC:=by
 rcases h with h|h
 ·rw[h.1]at a;cases a
 ·exact h
def dY {d:aw} (a:aY d=true) {e:bh} (h:bi d e):lz e/\e.2.1.length<=5/\e.2.2.1.length<=2:=by
 obtain⟨b,c,f⟩:d.1.length<=5/\d.2.1.length<=3/\d.2.2.1.length<=2:=by
  simp only[aY,a0c,a0q]at a;exact a.1
 rcases h with h|h
 ·have:=h.2.1.ints
  have:=h.2.1.arrs;exact⟨⟨by omega,by omega⟩,by omega,by omega⟩
 ·rw[h];exact⟨⟨by simp[bC],by simp[bC]⟩,by simp[bC],by simp[bC]⟩
def se {a b:bA} (h:(dG a b).2.1=true):bj (dG a b).1=true:=by
 unfold dG at h⊢
 cases hc:(co a b&& bj (iz a b))
 ·rw[hc]at h;exact absurd h (by simp)
 ·simp only[a0c]at hc
  exact hc.2
def CQ {c:bA} (h:(zO c).2.1=true):bj (zO c).1=true:=by
 unfold zO at h⊢
 cases hc:bj c
 ·rw[hc]at h;exact absurd h (by simp[Oe])
 ·exact hc
def PQ (r:CK):Prop:=r.2.1=true->bj r.1=true
def sf:PQ Oe:=λh=>by cases h
def Ku (op:Int) (a b:bA):PQ (pS op a b):=by
 unfold pS
 cases hc:(decide (13<=op/\op<=18)&& co a b)
 ·exact sf
 ·have c:a.1<=a.2.1:=by
   simp only[a0c,co,bj,a0q]at hc;exact hc.2.1
  simp only[a1r];split
  ·exactλh=>se h
  split
  ·unfold rW
   split
   ·exactλ_=>a0f c
   split
   ·exact sf
   split
   ·exactλ_=>a0f (by simp only;omega)
   ·exactλ_=>a0f (by simp only;omega)
  split
  ·exactλh=>CQ h
  split
  ·exactλh=>CQ h
  split
  ·split
   ·exact sf
   ·exactλh=>CQ h
  ·split
   ·exact sf
   ·exactλh=>CQ h
def M7 {d:aw} {e:bh} (h:e.1=true/\Kn d e/\(∀x∈e.2.1,bj x=true)/\∀x∈e.2.2.1,bj x=true) (v:Int) {a:bA} (b:bw a) (c:bj a=true):bi d (bS e v a):=by
 refine Or.inl ⟨h.1,Kr h.2.1 b,λx f=> ?_,h.2.2.2⟩;rcases a1v f with h'|h'
 ·exact h.2.2.1 x h'
 ·rw[h'];exact c
def G5 {d:aw} {e:bh} (g:Kn d e) {x:Ex} (h:x.Ok d) (c:li x=true):∃t:bU,x= .leaf t/\t.1=2/\0<=t.2.1/\t.2.1.toNat<e.2.1.length:=by
 cases x with
 |leaf t=>
  have f:t.1=2:=by simpa [li]using c
  obtain⟨i,j⟩:=mV h.2 f;exact⟨t,rfl,f,i,by rw[g.ints];exact j⟩
 |one t a=>cases c
 |two t a b=>cases c
def oU {d:aw} (op:Int) {x:Ex} (i:x.Ok d) {e:bh} (c:bi d e) (f:e.1=true) {v:bA} (j:bw v):bi d (gE op x e v):=by
 obtain⟨a,hi,k⟩:=bK c f;unfold gE
 cases hq:li x
 ·exact c
 ·obtain⟨t,rfl,l,m,g⟩:=G5 a i hq
  simp only[Ex.tok];have h:e.2.1.getD t.2.1.toNat fS∈e.2.1:=by rw[ay g];exact a0l g
  by_cases b:(pS op (e.2.1.getD t.2.1.toNat fS) v).2.1=true
  ·rw[cT rfl,cT b]
   exact M7 ⟨f,a,hi,k⟩ _ (MV op (a.fi _ h) j (hi _ h)) (Ku op _ _ b)
  ·rw[cT rfl,cF (by simpa using b)]
   exact dR d
def G7 {d:aw} (leaf op:Int) {a b:Ex} (f:a.Ok d) (h:b.Ok d) {e:bh} (i:bi d e) (j:e.1=true):bi d (oT d leaf op a b e):=by
 obtain⟨k,hi,m⟩:=bK i j;unfold oT;by_cases l:(aC (aB d e leaf a)&& aC (aB d e leaf b))=true
 ·rw[cT l]
  have g:=oU op f i j (cO k leaf h).1;by_cases c:(gE op a e (bR (aB d e leaf b))).1=true
  ·rw[cT c]
   exact oU _ h g c (cO k leaf f).1
  ·rw[cF (by simpa using c)];exact dR d
 ·rw[cF (by simpa using l)];exact dR d
def mZ {P:bA->Prop} {f:bA->bA->bA} (c:∀x y,P x->P y->P (f x y)):(a b:List bA)->(∀x∈a,P x)->(∀x∈b,P x)->∀x∈List.zipWith f a b,P x
 |[],b,_,_=>by simp
 |x::a,[],_,_=>by simp
 |x::a,y::b,ha,hb=>by
  intro z hz;simp only[a5n,a1e]at hz;rcases hz with hz|hz
  ·rw[hz];exact c x y (ha x (by simp)) (hb y (by simp))
  ·exact mZ c a b (λz hz=>ha z (by simp[hz])) (λz hz=>hb z (by simp[hz])) z hz
def CR {a b:bA} (c:bj a=true) (d:bj b=true):bj (jH a b)=true:=by
 simp only[bj,a0q]at c d⊢;simp only[jH];split<;>split<;>omega
def tC {d:aw} {a b:bh} (j:bi d a) (k:bi d b):bi d (fh a b):=by
 unfold fh;by_cases f:a.1=true
 ·by_cases i:b.1=true
  ·rw[cT f,cT i]
   obtain⟨g,l,m⟩:=bK j f;obtain⟨h,n,o⟩:=bK k i;have l1:=g.ints;have l2:=h.ints;have p:=g.arrs;have q:=h.arrs;exact Or.inl ⟨rfl,⟨by simp only[uU,a4p];omega,by simp only[uU,a4p];omega,
    mZ (λx y c e=>tt c e) _ _ g.fi h.fi,mZ (λx y c e=>tt c e) _ _ g.fa h.fa⟩,
    mZ (λx y c e=>CR c e) _ _ l n,mZ (λx y c e=>CR c e) _ _ m o⟩
  ·rw[cT f,cF (by simpa using i)];exact j
 ·rw[cF (by simpa using f)];exact k
def hU {d:aw} (leaf:Int):∀ {x:Ex},x.Ok d->∀(c:Bool) {e:bh},bi d e->bi d (iC d leaf x c e)
 | .leaf t,hx,c,e,he=>by
  unfold iC;by_cases f:e.1=true
  ·rw[cT f]
   split
   ·exact he
   ·exact dR d
  ·rw[cF (by simpa using f)];exact dR d
 | .one t a,hx,c,e,he=>by
  unfold iC;by_cases f:e.1=true
  ·rw[cT f]
   exact hU leaf hx.2.2.2 (!c) he
  ·rw[cF (by simpa using f)];exact dR d
 | .two t a b,hx,c,e,he=>by
  unfold iC;by_cases f:e.1=true
  ·rw[cT f]
   split
   ·exact G7 leaf _ hx.2.2.2.2.1 hx.2.2.2.2.2 he f
   split
   ·exact hU leaf hx.2.2.2.2.2 c (hU leaf hx.2.2.2.2.1 c he)
   ·exact tC (hU leaf hx.2.2.2.2.1 c he) (hU leaf hx.2.2.2.2.2 c he)
  ·rw[cF (by simpa using f)];exact dR d
abbrev CS:=Int×Int×List bU×Unit
def fq:Ex->ct CS
 | .leaf t=> .node (t.1,t.2.1,[t],()) []
 | .one t a=> .node (t.1,t.2.1,a.flat++[t],()) [fq a]
 | .two t a b=> .node (t.1,t.2.1,a.flat++(b.flat++[t]),()) [fq a,fq b]
def Qp (x:Ex):(fq x).lab=(x.tok.1,x.tok.2.1,x.flat,()):=by
 cases x<;>rfl
def tD (l:List bU) (M:l.length<=40) (g:∀t∈l,1<=t.1/\t.1<=21) (hi:i<l.length) (P C:List (ct CS)) (F S:List Int) (H:C.length=nT l[i].1) (I:S.length=C.length) (z:F.length=P.length) (N:P.length<=40) (s:Nat)
 (f:if nT l[i].1=0 then s=i else S[0]?=some (s:Int)) (J:s<=i+1) (G):
 AK.l0 k G (l,P++C,F++S,l,(l.length:Int),(i:Int),())=G (l,P++[.node (l[i].1,l[i].2.1,(l.take (i+1)).drop s,()) C],F++[(s:Int)],l,(l.length:Int),((i+1:Nat):Int),()):=by
 have O:=Ie l[i].1;have A:((i:Int)<(l.length:Int)):=by omega
 have B:(0:Int)<=(i:Int):=by omega
 have a:=g _ (a0l hi);have h:wrap .i64 (((P++C).length:Int)-((nT l[i].1:Nat):Int))=(P.length:Int):=by rw[ak (by simp;omega) (by simp;omega)];simp;omega
 have j:aO (P++C) P.length ((P++C).length-P.length)=C:=by unfold aO;simp
 have m:aO (P++C) 0 (P.length-0)=P:=by unfold aO;simp
 have n:aO (F++S) 0 (P.length-0)=F:=by unfold aO;simp[<-z]
 have a1:0<=(P.length:Int)/\(P.length:Int)<=((P++C).length:Int):=by simp only[a0m];omega
 have o:0<=(P.length:Int)/\(P.length:Int)<=((F++S).length:Int):=by simp;omega
 have b:∀v:ct CS,(P.length+([v]:List (ct CS)).length)*8<=af:=by intro v;simp only[a0g,a0h,af];omega
 have c:∀v:Int,(F.length+([v]:List Int).length)*8<=af:=by intro v;simp only[a0g,a0h,af];omega
 have d:(([]:List (ct CS)).length+C.length)*8<=af:=by simp only[a0h,af];omega
 have D:wrap .i64 ((i:Int)+1)=((i+1:Nat):Int):=aH;by_cases E:nT l[i].1=0
 ·have p:C=[]:=a4j.1 (by omega)
  subst p;have e:S=[]:=a4j.1 (by simpa using I);subst e;rw[a0b E]at f;subst f;simp only[a2m]at h a1 o j m n⊢;have q:¬((P.length:Int)<(P.length:Int)):=by omega
  have r:0<=(s:Int)/\(s:Int)<=((s+1:Nat):Int)/\((s+1:Nat):Int)<=(l.length:Int):=by omega
  have u:aO P P.length (P.length-P.length)=([]:List (ct CS)):=j;have w:aO P 0 (P.length-0)=P:=m;have x:aO F 0 (P.length-0)=F:=n;simp only[AK.l0,an,a0b A,a0b B,a0j,a0a hi,aa,oQ k _ a,a1o,h,a0e q,D,a0b r,a0b a1,a0b o,u,w,x,a4b,List.isEmpty_nil,ai,vO,a0b (b _),a0b (c _)];rw[a0b d];exact vO _
 ·have e:0<S.length:=by omega
  rw[a0e E]at f;have q:((P.length:Int)<((P++C).length:Int)):=by simp;omega
  have K:0<=(P.length:Int)/\(P.length:Int)<((F++S).length:Int):=by simp;omega
  have L:(F++S)[P.length]?=some (s:Int):=by rw[a1j (by omega),z,Nat.sub_self];exact f
  have r:0<=(s:Int)/\(s:Int)<=((i+1:Nat):Int)/\((i+1:Nat):Int)<=(l.length:Int):=by omega
  have y:C.isEmpty=false:=by cases C with|nil=>simp at H;omega|cons _ _=>rfl
  simp only[AK.l0,an,a0b A,a0b B,a0j,a0a hi,aa,oQ k _ a,a1o,h,a0b q,a0b K,L,D,a0b r,a0b a1,a0b o,j,m,n,a4b,y,ah,a0b d,a0b (b _),a0b (c _),a2j]
def na {l a b:List α} (h:l.drop i=a++b):l.drop (i+a.length)=b:=by
 rw[<-a4k,h];simp
def xX {l b:List α} {t:α} (h:l.drop i=t::b):∃hi:i<l.length,l[i]=t:=by
 have hi:i<l.length:=by
  by_cases hi:i<l.length
  ·exact hi
  ·rw[a1w (by omega)]at h;cases h
 refine⟨hi,?_⟩;rw[a1b hi]at h;exact(List.cons.inj h).1
def xY {l a b:List α} (h:l.drop i=a++b):(l.take (i+a.length)).drop i=a:=by
 rw[a9c,h];simp
def Kv (l:List bU) (u:l.length<=40) (p:∀t∈l,1<=t.1/\t.1<=21) {d:aw}:∀(x:Ex),x.Ok d->∀(r:List bU) (i f:Nat) (P:List (ct CS)) (F:List Int),l.drop i=x.flat++r->F.length=P.length->P.length<=i->aP (AK.l0 k) (x.size+f) (l,P,F,l,(l.length:Int),(i:Int),())=aP (AK.l0 k) f (l,P++[fq x],F++[(i:Int)],l,(l.length:Int),((i+x.size:Nat):Int),()):=by
 intro x
 induction x with
 |leaf t=>
  intro g r i f P F j m s;obtain⟨hi,n⟩:=xX (show l.drop i=t::r from j);have v:nT l[i].1=0:=by rw[n];exact g.1
  have h:=tD (k:=k) l u p hi P [] F [] (by rw[v];rfl) rfl m (by omega) i (by rw[a0b v]) (by omega) (aP (AK.l0 k) f);rw[a2m,a2m]at h;show aP (AK.l0 k) (1+f) _=_;rw[show 1+f=f+1 by omega,az,h];have o:=xY (a:=[t]) (show l.drop i=[t]++r from j);simp only[a0g,a0h]at o;rw[o,n];rfl
 |one t a ih=>
  intro g r i f P F j m s;have e:l.drop i=a.flat++([t]++r):=by rw[j];simp[Ex.flat]
  show aP (AK.l0 k) (a.size+1+f) _=_;rw[show a.size+1+f=a.size+(f+1) by omega,ih g.2.2.2 _ i (f+1) P F e m s];have c:=na e;rw[Ex.flat_len]at c;obtain⟨hi,n⟩:=xX (show l.drop (i+a.size)=t::r from c);have w:nT l[i+a.size].1=1:=by rw[n];exact g.1
  have h:=tD (k:=k) l u p hi P [fq a] F [(i:Int)] (by rw[w];rfl) rfl m (by omega) i (by rw[ifNegQ];rfl) (by omega) (aP (AK.l0 k) f);rw[az,h];have o:=xY (a:=a.flat++[t]) (b:=r) (i:=i) (l:=l) (by rw[j];rfl);rw[a0m,Ex.flat_len,a8z,<-a2k]at o;rw[o,n];rfl
 |two t a b iha ihb=>
  intro g r i f P F j m s;have e:l.drop i=a.flat++(b.flat++([t]++r)):=by rw[j];simp[Ex.flat]
  show aP (AK.l0 k) (a.size+b.size+1+f) _=_;rw[show a.size+b.size+1+f=a.size+(b.size+(f+1)) by omega,iha g.2.2.2.2.1 _ i _ P F e m s];have c:=na e;rw[Ex.flat_len]at c;have y:=a.size_pos;rw[ihb g.2.2.2.2.2 _ (i+a.size) (f+1) _ _ c (by simp[m]) (by simp;omega)];have q:=na c;rw[Ex.flat_len]at q;obtain⟨hi,n⟩:=xX (show l.drop (i+a.size+b.size)=t::r from q);have z:nT l[i+a.size+b.size].1=2:=by rw[n];exact g.1
  have h:=tD (k:=k) l u p hi P [fq a,fq b] F [(i:Int),((i+a.size:Nat):Int)] (by rw[z];rfl) rfl m (by omega) i (by rw[ifNegQ];rfl) (by omega) (aP (AK.l0 k) f);rw[az,a1q,a1q];refine Eq.trans h ?_
  have o:=xY (a:=a.flat++(b.flat++[t])) (b:=r) (i:=i) (l:=l) (by rw[j];rfl);rw[a0m,a0m,Ex.flat_len,Ex.flat_len,a8z,<-a2k,<-a2k]at o;rw[o,n,show i+(Ex.two t a b).size=i+a.size+b.size+1 by simp only[Ex.size];omega];rfl
def Kw (j:100<k) {d:aw} {x:Ex} (a:x.Ok d) (l:x.size<=40):AK k (x.flat,())=some ((fq x,()),((),())):=by
 have b:=Ex.flat_len x;have h:=Kv (k:=k) x.flat (by omega) (λt c=>jz (a.all t c)) x a [] 0 (k-x.size) [] [] (by simp) rfl (by simp);simp only[AK];rw[show x.size+(k-x.size)=k by omega]at h;refine Eq.trans h ?_
 obtain⟨f,e⟩:∃f,k-x.size=f+1:=⟨k-x.size-1,by omega⟩;have g:¬(((0+x.size:Nat):Int)<(x.flat.length:Int)):=by omega
 have i:(0:Int)<=0/\(0:Int)<(([fq x]:List (ct CS)).length:Int):=by simp
 rw[e,az];simp only[AK.l0,an,a0e g,a2j,a0b i,a4b,a1p,aa]
def A5 (k:Nat) (a:13<=op) (b:op<=18):rR k (op,())=some ((oS op,()),((),())):=by
 have:op=13\/op=14\/op=15\/op=16\/op=17\/op=18:=by omega
 rcases this with rfl|rfl|rfl|rfl|rfl|rfl<;>simp[rR,oS]
def xZ {d:aw} {x:Ex} (e:x.Ok d):(x.tok.1==2)=li x:=by
 cases x with
 |leaf t=>rfl
 |one t a=>
  have:nT t.1=1:=e.1;have c:¬t.1=2:=λh=>by rw[h]at this;simp[nT]at this
  simp[Ex.tok,li,c]
 |two t a b=>
  have:nT t.1=2:=e.1;have c:¬t.1=2:=λh=>by rw[h]at this;simp[nT]at this
  simp[Ex.tok,li,c]
def tE {x:Ex} {e:bh} {v:bA} (h:li x=false):gE op x e v=e:=by unfold gE;rw[cF h]
def tF {x:Ex} {e:bh} {v:bA} (h:li x=true) (a:(pS op (e.2.1.getD x.tok.2.1.toNat fS) v).2.1=true):gE op x e v=bS e x.tok.2.1 (pS op (e.2.1.getD x.tok.2.1.toNat fS) v).1:=by unfold gE;rw[cT h,cT a]
def qU {x:Ex} {e:bh} {v:bA} (h:li x=true) (a:(pS op (e.2.1.getD x.tok.2.1.toNat fS) v).2.1=false):gE op x e v=bC:=by unfold gE;rw[cT h,cF a]
def Ez {d:aw} {a b:Ex} {e:bh} (h:(aC (aB d e leaf a)&& aC (aB d e leaf b))=false):oT d leaf op a b e=bC:=by unfold oT;rw[cF h]
def Ky {d:aw} {a b:Ex} {e:bh} (h:(aC (aB d e leaf a)&& aC (aB d e leaf b))=true) (c:(gE op a e (bR (aB d e leaf b))).1=false):oT d leaf op a b e=bC:=by unfold oT;rw[cT h,cF c]
def EA {d:aw} {a b:Ex} {e:bh} (h:(aC (aB d e leaf a)&& aC (aB d e leaf b))=true) (c:(gE op a e (bR (aB d e leaf b))).1=true):oT d leaf op a b e=gE (oS op) b (gE op a e (bR (aB d e leaf b))) (bR (aB d e leaf a)):=by unfold oT;rw[cT h,cT c]
def uW (F:4194304<k) {d:aw} (M:aY d=true) (leaf:Int) (G:13<=op) (H:op<=18) {a b:Ex} (r:a.Ok d) (u:b.Ok d) (N:a.size<=40) (O:b.size<=40) {e:bh} (w:bi d e) (o:e.1=true):zK k ((d.1,d.2.1,d.2.2.1,e.1,e.2.1,e.2.2.1,leaf,()),op,fq a,fq b,())=some ((oT d leaf op a b e,()),((),(),(),(),())):=by
 obtain⟨p,hi,T⟩:=bK w o;have A:=(dY M w).1;have I:bw (bR (aB d e leaf a)):=(cO p leaf r).1;have J:bw (bR (aB d e leaf b)):=(cO p leaf u).1;simp only[zK,Qp,mY F p leaf r N,mY F p leaf u O,aa];have P:(aB d e leaf a).2.2.1=aC (aB d e leaf a):=rfl;have Q:(aB d e leaf b).2.2.1=aC (aB d e leaf b):=rfl;have B:((aB d e leaf a).1,(aB d e leaf a).2.1,())=bR (aB d e leaf a):=rfl;have C:((aB d e leaf b).1,(aB d e leaf b).2.1,())=bR (aB d e leaf b):=rfl;rw[P,Q,B,C,xZ r,xZ u]
 cases hla:aC (aB d e leaf a)
 ·simp only[a0y,ai,a0d]
  rw[Ez (by rw[hla];rfl)];rfl
 cases hlb:aC (aB d e leaf b)
 ·simp only[a0y,a0t,ah,ai,a0d]
  rw[Ez (by rw[hla,hlb];rfl)];rfl
 have i:(aC (aB d e leaf a)&& aC (aB d e leaf b))=true:=by rw[hla,hlb];rfl
 have s:yU k ((e.1,e.2.1,e.2.2.1,()),())=some ((e,()),((),())):=qS k e A;simp only[a0t,ah,a0d,s,aa];have g:∀m:bh,bi d m->m.1=true->m.2.1.length=e.2.1.length->li b=true->0<=b.tok.2.1/\b.tok.2.1<(m.2.1.length:Int)/\m.2.1[b.tok.2.1.toNat]?=some (m.2.1.getD b.tok.2.1.toNat fS)/\bw (m.2.1.getD b.tok.2.1.toNat fS):=by
  intro m y D K c;obtain⟨L,U,V⟩:=bK y D;obtain⟨t,rfl,q,l,f⟩:=G5 L u c;refine⟨l,by simp only[Ex.tok];omega,?_,?_⟩
  ·simp only[Ex.tok];rw[ay f];exact a0a f
  ·simp only[Ex.tok];rw[ay f];exact L.fi _ (a0l f)
 cases hva:li a
 ·have n:=tE (op:=op) (x:=a) (e:=e) (v:=bR (aB d e leaf b)) hva
  simp only[ah];rw[EA i (by rw[n];exact o),n]
  cases c:li b
  ·simp only[ah]
   rw[tE c]
  ·obtain⟨l,f,q,z⟩:=g e w o rfl c
   simp only[ai,A5 k G H,aa,a0f (And.intro l f),q,lB k (oS op) z I];by_cases j:(pS (oS op) (e.2.1.getD b.tok.2.1.toNat fS) (bR (aB d e leaf a))).2.1=true
   ·rw[tF c j]
    simp only[j,a0t,ah,bS]
   ·rw[qU c (by simpa using j)]
    simp only[a5g]at j;simp only[j,a0y,ai,bC]
 ·obtain⟨l,f⟩:0<=a.tok.2.1/\a.tok.2.1.toNat<e.2.1.length:=by
   obtain⟨t,rfl,q,l,f⟩:=G5 p r hva;exact⟨l,f⟩
  have R:e.2.1[a.tok.2.1.toNat]?=some (e.2.1.getD a.tok.2.1.toNat fS):=by rw[ay f];exact a0a f
  have S:bw (e.2.1.getD a.tok.2.1.toNat fS):=by rw[ay f];exact p.fi _ (a0l f)
  have E:0<=a.tok.2.1/\a.tok.2.1<(e.2.1.length:Int):=by omega
  simp only[ai,a0f E,R,aa,lB k op S J];by_cases j:(pS op (e.2.1.getD a.tok.2.1.toNat fS) (bR (aB d e leaf b))).2.1=true
  ·have n:=tF (op:=op) (x:=a) (e:=e) (v:=bR (aB d e leaf b)) hva j
   have y:=oU op r w o J;rw[n]at y;rw[EA i (by rw[n];exact o),n];simp only[j,a0t,ah]
   cases c:li b
   ·simp only[ah]
    rw[tE c];rfl
   ·obtain⟨l,f,q,z⟩:=g _ y o (by simp[bS]) c
    simp only[bS]at l f q z;simp only[ai,A5 k G H,aa,a0f (And.intro l f),q,lB k (oS op) z I];by_cases h:(pS (oS op) ((bS e a.tok.2.1 (pS op (e.2.1.getD a.tok.2.1.toNat fS) (bR (aB d e leaf b))).1).2.1.getD b.tok.2.1.toNat fS) (bR (aB d e leaf a))).2.1=true
    ·rw[tF c h]
     simp only[bS]at h⊢;simp only[h,a0t,ah]
    ·rw[qU c (by simpa using h)]
     simp only[bS,a5g]at h;simp only[h,a0y,ai,bC]
  ·have n:=qU (op:=op) (x:=a) (e:=e) (v:=bR (aB d e leaf b)) hva (by simpa using j)
   rw[Ky i (by rw[n];rfl)];simp only[a5g]at j;simp only[j,a0y,ai,bC]
def A6 {d:aw} {t:bU} {a:Ex} (e:(Ex.one t a).Ok d) (f:(Ex.one t a).kind=2):t.1=19/\a.kind=2:=by
 have g:nT t.1=1:=e.1;have b:bQ t.1=2:=f;have c:=e.2.2.1;rcases Rg g with h|h|h
 ·rw[h]at b;simp[bQ]at b
 ·rw[h]at b;simp[bQ]at b
 ·refine⟨h,?_⟩
  rw[c,h];rfl
def A7 {d:aw} {t:bU} {a b:Ex} (g:(Ex.two t a b).Ok d) (l:(Ex.two t a b).kind=2):(13<=t.1/\t.1<=18)\/((t.1=20\/t.1=21)/\a.kind=2/\b.kind=2):=by
 have i:nT t.1=2:=g.1;have c:bQ t.1=2:=l;have m:=jz g.2.1;have j:13<=t.1:=by
  unfold bQ at c;unfold nT at i;by_cases n:t.1<=5
  ·rw[a0b n]at i;omega
  ·rw[ifNegQ]at c
   by_cases k:t.1<=12
   ·rw[a0b k]at c;omega
   ·omega
 by_cases e:t.1<=18
 ·exact Or.inl ⟨j,e⟩
 ·have o:t.1≠19:=λh=>by rw[h]at i;simp[nT]at i
  have f:kT t.1=2:=by unfold kT;rw[ifNegQ,a0e e]
  exact Or.inr ⟨by omega,by rw[g.2.2.1,f],by rw[g.2.2.2.1,f]⟩
def tG {d:aw} {x:Ex} {e:bh} (h:e.1=false):iC d leaf x want e=bC:=by
 cases x<;>(unfold iC;rw[cF h])
def Kz {d:aw} {t:bU} {e:bh} (h:e.1=true):iC d leaf (.leaf t) want e=if(fJ e leaf t).1=iP want then e else bC:=by
 conv=>lhs;unfold iC
 rw[cT h]
def M8 {d:aw} {t:bU} {a:Ex} {e:bh} (h:e.1=true):iC d leaf (.one t a) want e=iC d leaf a (!want) e:=by
 conv=>lhs;unfold iC
 rw[cT h]
def M9 {d:aw} {t:bU} {a b:Ex} {e:bh} (h:e.1=true):iC d leaf (.two t a b) want e=if 13<=t.1/\t.1<=18 then oT d leaf (cond want t.1 (31-t.1)) a b e else if(t.1==20)=want then iC d leaf b want (iC d leaf a want e)else fh (iC d leaf a want e) (iC d leaf b want e):=by
 conv=>lhs;unfold iC
 rw[cT h]
def G8 (S:4194304<k) {d:aw} (A:aY d=true) (leaf:Int):∀(x:Ex),x.Ok d->x.kind=2->x.size<=40->∀(c:Bool) (e:bh),bi d e->∀f,x.depth<f->aP (nM.f k) f ((d.1,d.2.1,d.2.2.1,e.1,e.2.1,e.2.2.1,leaf,()),fq x,c,())=some ((iC d leaf x c e,()),((),(),(),())):=by
 intro x
 induction x with
 |leaf t=>
  intro j p J c e n f K;obtain⟨f,rfl⟩:∃g,f=g+1:=⟨f-1,by omega⟩;rw[az];have i:(fq (.leaf t)).lab=(t.1,t.2.1,[t],()):=rfl;simp only[nM.f,i]
  cases hl:e.1
  ·rw[tG hl]
   simp only[a0y,ai,bC]
  ·obtain⟨Z,hi,hr⟩:=bK n hl
   have h0:nT t.1=0:=j.1;have h5:=RV h0;have v:=A1 k Z.ints leaf j.2;unfold iI at v;rw[hl]at v;have B:yU k ((true,e.2.1,e.2.2.1,()),())=some ((e,()),((),())):=by
    have:=qS k e (dY A n).1;rw[<-hl];exact this
   have o:(t.1==19)=false:=by simp;omega
   have w:(t.1==20)=false:=by simp;omega
   have q:(t.1==21)=false:=by simp;omega
   have y:decide (13<=t.1/\t.1<=18)=false:=by simp;omega
   have C:vj k ((d.1,d.2.1,d.2.2.1,true,e.2.1,e.2.2.1,leaf,()),(t.1,t.2.1,()),())=some ((fJ e leaf t,()),((),(),())):=v;simp only[a0t,ah,o,w,q,a0d,cI,y,aa,C,i7,B];rw[Kz hl];by_cases r:(fJ e leaf t).1=iP c
   ·have:((fJ e leaf t).1 !=iP c)=false:=by simp[r]
    rw[a0b r,this,ah]
   ·have:((fJ e leaf t).1 !=iP c)=true:=by simp[r]
    rw[a0e r,this,ai];rfl
 |one t a ih=>
  intro j p J c e n f K;obtain⟨f,rfl⟩:∃g,f=g+1:=⟨f-1,by omega⟩;obtain⟨M,z⟩:=A6 j p;rw[az];have i:(fq (.one t a)).lab=(t.1,t.2.1,a.flat++[t],()):=rfl;have l:(fq (.one t a)).kids=[fq a]:=rfl;simp only[nM.f,i,l]
  cases hl:e.1
  ·rw[tG hl]
   simp only[a0y,ai,bC]
  ·have N:(t.1==19)=true:=by simp[M]
   have:=ih j.2.2.2 z (by simp only[Ex.size]at J;omega) (!c) e n f (by simp only[Ex.depth]at K;omega);rw[hl]at this;simp only[a0t,ah,N,ai,a0f (show(0:Int)<=0 by omega),a4b,a1p,aa,this];rw[M8 hl]
 |two t a b iha ihb=>
  intro j p J c e n f K;obtain⟨f,rfl⟩:∃g,f=g+1:=⟨f-1,by omega⟩;rw[az];have i:(fq (.two t a b)).lab=(t.1,t.2.1,a.flat++(b.flat++[t]),()):=rfl;have l:(fq (.two t a b)).kids=[fq a,fq b]:=rfl;have m:a.size<=40/\b.size<=40:=by simp only[Ex.size]at J;omega
  have D:a.depth<f/\b.depth<f:=by simp only[Ex.depth]at K;omega
  simp only[nM.f,i,l]
  cases hl:e.1
  ·rw[tG hl]
   simp only[a0y,ai,bC]
  ·have T:((0:Int).toNat)=0:=rfl
   have U:((1:Int).toNat)=1:=rfl;have V:([fq a,fq b]:List (ct CS))[1]?=some (fq b):=rfl;rw[M9 hl];rcases A7 j p with⟨s,u⟩|⟨E,z,O⟩
   ·have o:(t.1==19)=false:=by simp;omega
    have w:(t.1==20)=false:=by simp;omega
    have q:(t.1==21)=false:=by simp;omega
    have aJ:=uW S A leaf (op:=t.1) s u j.2.2.2.2.1 j.2.2.2.2.2 m.1 m.2 n hl;have F:=uW S A leaf (op:=31-t.1) (by omega) (by omega) j.2.2.2.2.1 j.2.2.2.2.2 m.1 m.2 n hl;rw[hl]at aJ F;rw[a0b ⟨s,u⟩];simp only[a0t,ah,o,w,q,a0d,cI,a0f (And.intro s u),aa,ai,uP k s u,a0f (show(0:Int)<=0 by omega),a0f (show(0:Int)<=1 by omega),T,U,a1p,V,aJ,F]
    cases c
    ·simp only[a0y,ai,a2p]
    ·simp only[a0t,ah,a1r]
   ·have o:(t.1==19)=false:=by simp;omega
    have y:¬(13<=t.1/\t.1<=18):=by omega
    have W:=iha j.2.2.2.2.1 z m.1 c e n f D.1;have X:=λe' P=>ihb j.2.2.2.2.2 O m.2 c e' P f D.2
    have L:=hU leaf j.2.2.2.2.1 c n;have Q:=hU leaf j.2.2.2.2.2 c n;have G:=X e n;have R:=X _ L;rw[hl]at W G;have hj:En k (iC d leaf a c e,iC d leaf b c e,(()),())=some ((fh (iC d leaf a c e) (iC d leaf b c e),()),((),(),(),())):=by
     have s1:=dY A L;have s2:=dY A Q;refine uV s1.1 s2.1 (λl1 l2=> ?_) (by omega) (by omega) ?_ ?_
     ·have Y:=(bK L l1).1
      have E2:=(bK Q l2).1;exact⟨Y.ints.trans E2.ints.symm,Y.arrs.trans E2.arrs.symm⟩
     ·rcases L with h|h
      ·exact h.2.2
      ·rw[h];simp[bC]
     ·rcases Q with h|h
      ·exact h.2.2
      ·rw[h];simp[bC]
    rw[a0e y];have H:(br k (t.1==20) (br k c (some (true,())) (br k (t.1==21) (some (!c,())) (some (false,())))) (br k (t.1==21) (some (!c,())) (some (false,()))):Option (Bool×Unit))=some ((t.1==20)==c,()):=by
     rcases E with h20|h21
     ·have q:(t.1==21)=false:=by simp;omega
      rw[h20]
      cases c<;>simp
     ·rw[h21]
      cases c<;>simp
    have I:(br k (t.1==20) (some (true,())) (some (t.1==21,())):Option (Bool×Unit))=some (true,()):=by
     rcases E with h20|h21
     ·rw[h20];simp
     ·rw[h21];simp
    simp only[a0t,ah,o,H,I,a0d,ai,a0f (show(0:Int)<=0 by omega),a0f (show(0:Int)<=1 by omega),T,U,a1p,V,aa,W,G,R,hj];by_cases r:(t.1==20)=c
    ·rw[a0b r,r,BEq.rfl,ai]
    ·have:((t.1==20)==c)=false:=by simpa using r
     rw[a0e r,this,ah]
def dZ (d:aw) (leaf:Int) (x:Ex) (a:Bool) (e:bh):bh:=cond (aC (aB d e leaf x)&& hasV (bR (aB d e leaf x)) (iP a)) (iC d leaf x a e) bC
where hasV (a:bA) (n:Int):Bool:=iO a n
def Na (h:4194304<k) {d:aw} (l:aY d=true) (leaf:Int) {x:Ex} (b:x.Ok d) (c:x.kind=2) (f:x.size<=40) (a:Bool) {e:bh} (i:bi d e) (j:e.1=true):J0 k ((d.1,d.2.1,d.2.2.1,e.1,e.2.1,e.2.2.1,leaf,()),x.flat,a,())=some ((dZ d leaf x a e,ce (aB d e leaf x),()),((),(),(),())):=by
 obtain⟨m,hi,r⟩:=bK i j;have n:=G8 h l leaf x b c f a e i k (by have:=x.depth_le;omega);have g:nM k ((d.1,d.2.1,d.2.2.1,e.1,e.2.1,e.2.2.1,leaf,()),fq x,a,())=some ((iC d leaf x a e,()),((),(),(),())):=n;have o:(aB d e leaf x).2.2.1=aC (aB d e leaf x):=rfl;have p:((aB d e leaf x).1,(aB d e leaf x).2.1,())=bR (aB d e leaf x):=rfl;have q:(aB d e leaf x).2.2.2.1=ce (aB d e leaf x):=rfl;simp only[J0,mY h m leaf b f,aa,i7,mS,Kw (show 100<k by omega) b f,g];rw[o,p,q];unfold dZ dZ.hasV
 cases j:aC (aB d e leaf x)
 ·simp only[a0y,ai,a0d,a5y,a2p,bC]
 ·cases hh:iO (bR (aB d e leaf x)) (iP a)
  ·simp only[a0t,ah,a0y,ai,a0d,a2d,a2p,bC]
  ·simp only[a0t,ah,a0d,a2d,a1r]
def eO {d:aw} (leaf:Int) {x:Ex} (b:x.Ok d) (a:Bool) {e:bh} (c:bi d e):bi d (dZ d leaf x a e):=by
 unfold dZ
 cases hc:(aC (aB d e leaf x)&& dZ.hasV (bR (aB d e leaf x)) (iP a))
 ·exact dR d
 ·exact hU leaf b a c
abbrev bD:=Int×Int×Unit
def A8 (e:bD):Bool:=decide (0<=e.1/\e.1<=29)&& decide (0<=e.2.1/\e.2.1<=4)
def bq (t:List bD):Bool:=decide (t.length<=3)&& t.all A8
def kK (k:Nat) (l:4194304<k) (t:List bD):Cu k (t,())=some ((bq t,()),((),())):=by
 unfold Cu bq;simp only[an];by_cases g:(t.length:Int)<=3
 ·have c:t.length<=3:=by omega
  rw[a0b g,a0f c,a2d];obtain⟨n,h,a⟩:=fD (b:=xq.l0 k) (λi=>(t,(((()),()),()),(t.length:Int),(i:Int),())) t (λe=> !A8 e) (o:=((),(((()),()),()),())) (λG i hi=>by
   have a:((i:Int)<(t.length:Int)):=by omega
   have j:(0:Int)<=(i:Int):=by omega
   simp only[xq.l0,Mx,Mw,cI,an (p:=(i:Int)<(t.length:Int)),an (p:=(0:Int)<=(i:Int)),a0b a,a0b j,a0j,a0a hi,aa];rw[aH,A8]
   cases decide (0<=t[i].1/\t[i].1<=29)<;>cases decide (0<=t[i].2.1/\t[i].2.1<=4)<;>simp) (λG=>by
   have a:¬((t.length:Int)<(t.length:Int)):=by omega
   simp only[xq.l0,an,a0e a]) (f:=k)
  unfold Mz My xq;have d:aP (xq.l0 k) k (t,(((()),()),()),(t.length:Int),0,())=some ((n,()),((),(((()),()),()),())):=h;simp only[d,aa,a,pr,a9a]
 ·have:decide (t.length<=3)=false:=by simp;omega
  rw[a0e g,this];rfl
def ya (k:Nat) (j:4194304<k) (t:List bD):Lj k (t,())=some ((bq t,()),((),())):=by
 unfold Lj bq;simp only[an];by_cases d:(t.length:Int)>3
 ·have:decide (t.length<=3)=false:=by simp;omega
  rw[a0b d,this];rfl
 ·have a:t.length<=3:=by omega
  rw[a0e d,a0f a,a2d];have h:=lV (b:=Lj.l0 k) (λi=>(t,(i:Int),())) t (λe=> !A8 e) (rf:=some ((false,()),((),()))) (r:=some ((true,()),((),()))) (λG i hi=>by
   have c:((i:Int)<(t.length:Int)):=by omega
   have g:(0:Int)<=(i:Int):=by omega
   simp only[Lj.l0,an,a0b c,a0b g,a0j,a0a hi,aa,jV];rw[aH,A8]
   cases decide (0<=t[i].1/\t[i].1<=29)<;>cases decide (0<=t[i].2.1/\t[i].2.1<=4)<;>simp) (λG=>by
   have c:¬((t.length:Int)<(t.length:Int)):=by omega
   simp only[Lj.l0,an,a0e c]) (f:=k)
  refine Eq.trans h ?_
  rw[pr]
  cases t.all A8<;>rfl
def nN (x y:bD):Int:=if x.1<y.1 then-1 else if x.1>y.1 then 1 else if x.2.1<y.2.1 then-1 else if x.2.1>y.2.1 then 1 else 0
def oV:List bD->List bD->Int
 |x::a,y::b=>if nN x y=0 then oV a b else nN x y
 |_,_=>0
def eD (a b:List bD):Int:=if a.length<b.length then-1 else if a.length>b.length then 1 else oV a b
def G9 (k:Nat) (x y:Int):JC k (x,y,())=some ((if x<y then-1 else if x>y then 1 else 0,()),((),(),())):=by
 unfold JC JB;simp only[aa,a3e,ah,an];by_cases a:x<y
 ·simp only[a0b a]
 ·by_cases b:x>y
  ·simp only[a0e a,a0b b]
  ·simp only[a0e a,a0e b]
def CT (k:Nat) (x y:Int):GC k (x,y,())=some ((if x<y then-1 else if x>y then 1 else 0,()),((),(),())):=by
 unfold GC JD;simp only[aa,a3e,ah,an];by_cases a:x<y
 ·simp only[a0b a]
 ·by_cases b:x>y
  ·simp only[a0e a,a0b b]
  ·simp only[a0e a,a0e b]
def PR (k:Nat) (d:4194304<k) (x y:Int):JE k (([x,y]:List Int),())=some ((if x=0 then y else x,()),((),())):=by
 obtain⟨j,rfl⟩:∃j,k=j+3:=⟨k-3,by omega⟩;unfold JE;simp only[a0g,a0h];rw[az];simp only[JE.l0,an];rw[a0b (by decide),a0b (by decide)];by_cases a:x=0
 ·subst a
  simp only[a4b,a1p,aa,a3e,ah,a0b];rw[ak (by decide) (by decide),az];simp only[JE.l0,an];rw[a0b (by decide),a0b (by decide)];by_cases c:y=0
  ·subst c
   have e:([0,0]:List Int)[((0:Int)+1).toNat]?=some 0:=rfl;simp only[e,aa,a3e,ah];rw[ak (by decide) (by decide),az];simp only[JE.l0,an];rw[a0e (by decide)]
  ·have e:([0,y]:List Int)[((0:Int)+1).toNat]?=some y:=rfl
   have b:(y !=0)=true:=by simpa using c
   simp only[e,aa,b,ai]
 ·have b:(x !=0)=true:=by simpa using a
  simp only[a4b,a1p,aa,b,ai,a0e a]
def O5 (k:Nat) (c:4194304<k) (x y:bD):JF k (x,y,())=some ((nN x y,()),((),(),())):=by
 unfold JF;simp only[CT,PR k c,aa];unfold nN;by_cases a:x.1<y.1
 ·simp[a]
 ·by_cases b:x.1>y.1
  ·simp[a,b]
  ·simp[a,b]
def A9 {a b:List bD} (c:i<a.length) (d:i<b.length):oV (a.drop i) (b.drop i)=if nN a[i] b[i]=0 then oV (a.drop (i+1)) (b.drop (i+1))else nN a[i] b[i]:=by
 rw[a1b c,a1b d];rfl
def Nb (a b:List bD) (c:a.length<=i):oV (a.drop i) (b.drop i)=0:=by
 rw[a1w c];cases b.drop i<;>rfl
def yb (k:Nat) (t:4194304<k) (a b:List bD) (w:a.length<=1048576):∃n:Int,zI k (a,b,(()),())=some ((n,()),((),(),(()),()))/\(a.length=b.length->n=oV a b):=by
 have l:∀(n i f:Nat),i+n=a.length->n<f->∃m:Int,aP (zI.l0 k) f (a,b,(()),a,(a.length:Int),(i:Int),())=some ((m,()),((),(),(()),()))/\(a.length=b.length->m=oV (a.drop i) (b.drop i)):=by
  intro n
  induction n with
  |zero=>
   intro i f hi u;obtain⟨f,rfl⟩:∃g,f=g+1:=⟨f-1,by omega⟩;have o:¬((i:Int)<(a.length:Int)):=by omega
   rw[az];simp only[zI.l0,an,a0e o];by_cases r:(a.length:Int)<(b.length:Int)
   ·exact⟨-1,by rw[a0b r],λh=>by omega⟩
   ·exact⟨0,by rw[a0e r],λh=>by rw[Nb a b (by omega)]⟩
  |succ n ih=>
   intro i f hi u;obtain⟨f,rfl⟩:∃g,f=g+1:=⟨f-1,by omega⟩;have c:i<a.length:=by omega
   have o:((i:Int)<(a.length:Int)):=by omega
   have v:(0:Int)<=(i:Int):=by omega
   rw[az];simp only[zI.l0,an,a0b o,a0b v,a0j,a0a c,aa];by_cases s:(i:Int)>=(b.length:Int)
   ·exact⟨1,by rw[a0b s],λh=>by omega⟩
   ·have d:i<b.length:=by omega
    rw[a0e s];simp only[a0a d,aa,O5 k t];rw[aH];by_cases j:nN a[i] b[i]=0
    ·have e:(nN a[i] b[i] !=0)=false:=by simpa using j
     obtain⟨m,p,q⟩:=ih (i+1) f (by omega) (by omega);refine⟨m,by rw[e,ah];exact p,λh=> ?_⟩;rw[A9 c d,a0b j];exact q h
    ·have e:(nN a[i] b[i] !=0)=true:=by simpa using j
     exact⟨nN a[i] b[i],by rw[e,ai],λh=>by rw[A9 c d,a0e j]⟩
 obtain⟨m,p,q⟩:=l a.length 0 k (by omega) (by omega);exact⟨m,p,λh=>q h⟩
def qV (k:Nat) (f:4194304<k) (a b:List bD) (h:a.length<=1048576):Eg k (a,b,())=some ((eD a b,()),((),(),())):=by
 unfold Eg eD;obtain⟨n,i,j⟩:=yb k f a b h;simp only[G9,i,PR k f,aa];by_cases e:a.length<b.length
 ·have c:(a.length:Int)<(b.length:Int):=by omega
  rw[a0b c,a0b e];rfl
 ·by_cases g:a.length>b.length
  ·have c:¬(a.length:Int)<(b.length:Int):=by omega
   have d:(a.length:Int)>(b.length:Int):=by omega
   rw[a0e c,a0b d,a0e e,a0b g];rfl
  ·have c:¬(a.length:Int)<(b.length:Int):=by omega
   have d:¬(a.length:Int)>(b.length:Int):=by omega
   rw[a0e c,a0e d,a0e e,a0e g,a0b rfl,j (by omega)]
def lj (d:aw) (t:List bh):Bool:=decide ((t.length:Int)=2^d.2.1.length)&& t.all (iw d)
def kb (t:List bh):Bool:=t.any λe=>e.1
def Nc {n:Nat} (h:n<=3):wrap .i64 (1*2^(min n 64))=2^n:=by
 have:n=0\/n=1\/n=2\/n=3:=by omega
 rcases this with rfl|rfl|rfl|rfl<;>decide
def Ba (k:Nat) (d:aw) (h:d.2.1.length<=3):p8 k (d,())=some (((2:Int)^d.2.1.length,()),((),())):=by
 unfold p8;have a:(0:Int)<=(d.2.1.length:Int):=by omega
 simp only[an,a0b a,a0j,Nc h]
def CU (k:Nat) (g:4194304<k) (d:aw) (t:List bh) (m:t.length<=1048576) (h:∀e∈t,lz e):JH k (t,(d,()),())=some ((t.all (iw d),()),((),((),()),())):=by
 obtain⟨n,j,a⟩:=fD (b:=xu.l0 k) (λi=>(t,(((d,()),()),()),(t.length:Int),(i:Int),())) t (λe=> !iw d e) (o:=((),(((d,()),()),()),())) (λG i hi=>by
  have a:((i:Int)<(t.length:Int)):=by omega
  have l:(0:Int)<=(i:Int):=by omega
  simp only[xu.l0,MF,MN k g d t[i] (h _ (a0l hi)),an,a0b a,a0b l,a0j,a0a hi,aa];rw[aH]
  cases iw d t[i]<;>simp) (λG=>by
  have a:¬((t.length:Int)<(t.length:Int)):=by omega
  simp only[xu.l0,an,a0e a]) (f:=k)
 unfold JH MG xu;have c:aP (xu.l0 k) k (t,(((d,()),()),()),(t.length:Int),0,())=some ((n,()),((),(((d,()),()),()),())):=j;simp only[c,aa,a,pr,a9a]
def Ha (k:Nat) (c:4194304<k) (d:aw) (f:d.2.1.length<=3) (t:List bh) (g:t.length<=1048576) (h:∀e∈t,lz e):JI k (d,t,())=some ((lj d t,()),((),(),())):=by
 unfold JI lj MB;simp only[aa,Ba k d f,CU k c d t g h];by_cases a:(t.length:Int)=2^d.2.1.length
 ·have b:((t.length:Int)==2^d.2.1.length)=true:=by simpa using a
  rw[b,ai,a0f a,a2d]
 ·have b:((t.length:Int)==2^d.2.1.length)=false:=by simpa using a
  rw[b,ah,a0n a];rfl
def Ij (st:List Int) (a b:List bA):List bA:=List.zipWith (λx y=>pu x y st) a b
def yc (st:List Int) (a b:bh):bh:=cond a.1 (cond b.1 (true,Ij st a.2.1 b.2.1,Ij st a.2.2.1 b.2.2.1,()) a) b
def Qq:Option (List Int)->bh->bh->bh
 |none=>fh
 |some st=>yc st
def yd (w:Option (List Int)) (a b:List bh):List bh:=List.zipWith (Qq w) a b
structure uX (d:aw) (t:List bh):Prop where
 n:t.length=2^d.2.1.length
 e:∀x∈t,bi d x
def ja {d:aw} (a:aY d=true):d.1.length<=5/\d.2.1.length<=3/\d.2.2.1.length<=2:=by
 simp only[aY,a0c,a0q]at a;exact a.1
def ma {d:aw} (a:aY d=true) {t:List bh} (h:uX d t):t.length<=8:=by
 rw[h.n];have:=(ja a).2.1;have b:d.2.1.length=0\/d.2.1.length=1\/d.2.1.length=2\/d.2.1.length=3:=by omega
 rcases b with h|h|h|h<;>rw[h]<;>decide
def KA {d:aw} {a b:bh} (e:bi d a) (f:bi d b):a.1=true->b.1=true->a.2.1.length=b.2.1.length/\a.2.2.1.length=b.2.2.1.length:=by
 intro g h;have c:=(bK e g).1;have E2:=(bK f h).1;exact⟨c.ints.trans E2.ints.symm,c.arrs.trans E2.arrs.symm⟩
def EB {d:aw} {a:bh} (b:bi d a):(∀x∈a.2.1,bj x=true)/\∀x∈a.2.2.1,bj x=true:=by
 rcases b with h|h
 ·exact h.2.2
 ·rw[h];simp[bC]
def nb (g:1000<k) {d:aw} (f:aY d=true) {a b:bh} (c:bi d a) (e:bi d b):En k (a,b,(),())=some ((fh a b,()),((),(),(),())):=by
 have h:=dY f c;have i:=dY f e;exact uV h.1 i.1 (KA c e) (by omega) g (EB c) (EB e)
def ED (l:1000<k) {d:aw} (g:aY d=true) {a b:List bh} (f:uX d a) (h:uX d b):xC k (a,b,(),())=some ((yd none a b,()),((),(),(),())):=by
 have l1:=ma g f;have m:a.length=b.length:=by rw[f.n,h.n]
 simp only[xC];refine ca (b:=xC.l0 k) (λi=>(b,(),yd none (a.take i) (b.take i),a,(a.length:Int),(i:Int),())) a.length (λG i hi=> ?_) (λG=> ?_) (by omega)
 ·have c:i<b.length:=by omega
  have j:(yd none (a.take i) (b.take i)).length<=8:=by unfold yd;rw[a4p,a1m];omega
  have o:=nb l g (f.e _ (a0l hi)) (h.e _ (a0l c));simp only[xC.l0];rw[a0f (show(i:Int)<(a.length:Int) by omega),a0f (show(0:Int)<=(i:Int) by omega)];simp only[ai,a0j,a0a hi,a0a c,aa,o];rw[a0f (by simp only[a0g,a0h,af];omega),ai,aH (i:=i)];unfold yd;rw[Ey (Qq none) a b hi c];rfl
 ·simp only[xC.l0]
  rw[a0n (show¬(a.length:Int)<(a.length:Int) by omega),ah,a2a,m,a2a]
def Bb {P:Int->Prop} {f:Int->Int->Int} (l:List Int) (a:∀m x,P m->x∈l->P (f m x)):∀m,P m->P (l.foldl f m):=by
 induction l with
 |nil=>exactλm h=>h
 |cons y l ih=>exactλm h=>ih (λm x b c=>a m x b (by simp[c])) _ (a m y h (by simp))
def uY (l:List Int) (b:Int) (a:ar b):ar (CD l b)/\CD l b<=b:=by
 refine Bb (P:=λm=>ar m/\m<=b) l (λm x c _=> ?_) _ ⟨by unfold ar;omega,a.1⟩;obtain⟨⟨a1,d⟩,e⟩:=c;obtain⟨f,g⟩:=a;unfold ar
 repeat (split<;>try omega)
def uZ (l:List Int) (b:Int) (a:ar b):ar (CE l b)/\b<=CE l b:=by
 refine Bb (P:=λm=>ar m/\b<=m) l (λm x c _=> ?_) _ ⟨by unfold ar;omega,a.2⟩;obtain⟨⟨a1,d⟩,e⟩:=c;obtain⟨f,g⟩:=a;unfold ar
 repeat (split<;>try omega)
def ye (e:st.length<=100) {a b:bA} (c:bw a) (d:bw b):bw (pu a b st):=by
 unfold pu
 cases hc:(co a b&& decide (st.length<=100))
 ·exact db
 ·refine⟨?_,?_⟩
  ·simp only[a1r]
   split
   ·exact(uY st _ d.1).1
   ·exact c.1
  ·simp only[a1r]
   split
   ·exact(uZ st _ d.2).1
   ·exact c.2
def Nd (c:st.length<=100) {a b:bA} (d:bj a=true) (e:bj b=true):pu a b st=(if b.1<a.1 then CD st b.1 else a.1,if b.2.1>a.2.1 then CE st b.2.1 else a.2.1,()):=by
 unfold pu co;rw[d,e,a0f c];rfl
def EE (c:st.length<=100) {a b:bA} (d:bw b) (e:bj a=true) (f:bj b=true):bj (pu a b st)=true:=by
 rw[Nd c e f];have g:=(uY st _ d.1).2;have h:=(uZ st _ d.2).2;simp only[bj,a0q]at e f⊢;split<;>split<;>omega
def yf {P Q:bA->Prop} {f:bA->bA->bA} (c:∀x y,Q x->Q y->P (f x y)):(a b:List bA)->(∀x∈a,Q x)->(∀x∈b,Q x)->∀x∈List.zipWith f a b,P x
 |[],b,_,_=>by simp
 |x::a,[],_,_=>by simp
 |x::a,y::b,ha,hb=>by
  intro z hz;simp only[a5n,a1e]at hz;rcases hz with hz|hz
  ·rw[hz];exact c x y (ha x (by simp)) (hb y (by simp))
  ·exact yf c a b (λz hz=>ha z (by simp[hz])) (λz hz=>hb z (by simp[hz])) z hz
def zU {d:aw} (e:st.length<=100) {a b:bh} (k:bi d a) (l:bi d b):bi d (yc st a b):=by
 unfold yc;by_cases i:a.1=true
 ·by_cases j:b.1=true
  ·rw[cT i,cT j]
   obtain⟨g,m,n⟩:=bK k i;obtain⟨h,o,p⟩:=bK l j;have l1:=g.ints;have l2:=h.ints;have q:=g.arrs;have r:=h.arrs;exact Or.inl ⟨rfl,⟨by simp only[Ij,a4p];omega,by simp only[Ij,a4p];omega,
    mZ (λx y c f=>ye e c f) _ _ g.fi h.fi,mZ (λx y c f=>ye e c f) _ _ g.fa h.fa⟩,
    yf (Q:=λx=>bw x/\bj x=true) (λx y c f=>EE e f.1 c.2 f.2) _ _ (λx c=>⟨g.fi x c,m x c⟩) (λx c=>⟨h.fi x c,o x c⟩),
    yf (Q:=λx=>bw x/\bj x=true) (λx y c f=>EE e f.1 c.2 f.2) _ _ (λx c=>⟨g.fa x c,n x c⟩) (λx c=>⟨h.fa x c,p x c⟩)⟩
  ·rw[cT i,cF (by simpa using j)];exact k
 ·rw[cF (by simpa using i)];exact l
def RM (w:Option (List Int)):Prop:=∀st,w=some st->st.length<=100
def KB {d:aw} {w:Option (List Int)} (f:RM w) {a b:bh} (c:bi d a) (e:bi d b):bi d (Qq w a b):=by
 cases w with
 |none=>exact tC c e
 |some st=>exact zU (f st rfl) c e
def EF {P:bh->Prop} {f:bh->bh->bh} (c:∀x y,P x->P y->P (f x y)):(a b:List bh)->(∀x∈a,P x)->(∀x∈b,P x)->∀x∈List.zipWith f a b,P x
 |[],b,_,_=>by simp
 |x::a,[],_,_=>by simp
 |x::a,y::b,ha,hb=>by
  intro z hz;simp only[a5n,a1e]at hz;rcases hz with hz|hz
  ·rw[hz];exact c x y (ha x (by simp)) (hb y (by simp))
  ·exact EF c a b (λz hz=>ha z (by simp[hz])) (λz hz=>hb z (by simp[hz])) z hz
def KC {d:aw} {w:Option (List Int)} (g:RM w) {a b:List bh} (c:uX d a) (f:uX d b):uX d (yd w a b):=⟨by unfold yd;rw[a4p,c.n,f.n,Nat.min_self],EF (λx y h i=>KB g h i) _ _ c.e f.e⟩
def Rn (a b:List bA):Bool:=(List.zipWith AM a b).all id
def Qr (a b:bh):Bool:=cond a.1 (cond b.1 (Rn a.2.1 b.2.1&& Rn a.2.2.1 b.2.2.1) false) true
def Qt (a b:List bh):Bool:=(List.zipWith Qr a b).all id
abbrev aG:=List bD×List bh×Unit
def iD (d:aw) (p:aG):Bool:=bq p.1&& (lj d p.2.1&& kb p.2.1)
def EG (a:Option (List bD)) (t:List bD):Bool:=
 match a with
 |none=>true
 |some s=> !decide (eD s t>=0)
def nG:Option (List bD)->List aG->Bool
 |_,[]=>true
 |prev,p::r=>EG prev p.1&& nG (some p.1) r
def jo (d:aw) (l:List aG):Bool:=decide (l.length<=100)&& (l.all (iD d)&& nG none l)
structure qW (l:List aG):Prop where
 n:l.length<=1048576
 t:∀p∈l,p.1.length<=1048576
 m:∀p∈l,p.2.1.length<=1048576
 e:∀p∈l,∀e∈p.2.1,lz e
def O6 (k:Nat) (h:4194304<k) (t:List bh) (j:t.length<=1048576):JJ k (t,(()),())=some ((kb t,()),((),(()),())):=by
 obtain⟨n,d,a⟩:=fD (b:=xw.l0 k) (λi=>(t,(()),(t.length:Int),(i:Int),())) t (λe=>e.1) (o:=((),(()),())) (λG i hi=>by
  have a:((i:Int)<(t.length:Int)):=by omega
  have g:(0:Int)<=(i:Int):=by omega
  simp only[xw.l0,MH,an,a0b a,a0b g,a0j,a0a hi,aa];rw[aH]
  cases t[i].1<;>simp) (λG=>by
  have a:¬((t.length:Int)<(t.length:Int)):=by omega
  simp only[xw.l0,an,a0e a]) (f:=k)
 unfold JJ xw;have c:aP (xw.l0 k) k (t,(()),(t.length:Int),0,())=some ((n,()),((),(()),())):=d;simp only[c,aa,a];rfl
def KD (k:Nat) (a:4194304<k) (d:aw) (c:d.2.1.length<=3) (p:aG) (b:p.2.1.length<=1048576) (f:∀e∈p.2.1,lz e):JK k (d,p,())=some ((iD d p,()),((),(),())):=by
 unfold JK iD;simp only[kK k a,Ha k a d c p.2.1 b f,O6 k a p.2.1 b,aa]
 cases bq p.1<;>cases lj d p.2.1<;>simp
def qe (k:Nat) (j:4194304<k) (d:aw) (q:d.2.1.length<=3) (l:List aG) (c:qW l):Eh k (l,(d,()),())=some ((l.all (iD d),()),((),((),()),())):=by
 have t:=c.n;obtain⟨n,r,a⟩:=fD (b:=xx.l0 k) (λi=>(l,(((d,()),()),()),(l.length:Int),(i:Int),())) l (λp=> !iD d p) (o:=((),(((d,()),()),()),())) (λG i hi=>by
  have a:((i:Int)<(l.length:Int)):=by omega
  have s:(0:Int)<=(i:Int):=by omega
  have h:=a0l hi;simp only[xx.l0,MI,KD k j d q l[i] (c.m _ h) (c.e _ h),an,a0b a,a0b s,a0j,a0a hi,aa];rw[aH]
  cases iD d l[i]<;>simp) (λG=>by
  have a:¬((l.length:Int)<(l.length:Int)):=by omega
  simp only[xx.l0,an,a0e a]) (f:=k)
 unfold Eh MJ xx;have g:aP (xx.l0 k) k (l,(((d,()),()),()),(l.length:Int),0,())=some ((n,()),((),(((d,()),()),()),())):=r;simp only[g,aa,a,pr,a9a]
def yg (k:Nat) (m:4194304<k) (d:aw) (r:d.2.1.length<=3) (l:List aG) (c:qW l):∀(n i f:Nat) (o:1<=i),(i<=l.length->∀(b:i-1<l.length),i+n=l.length->n<f->aP (JL.l0 k) f (l,(d.1,d.2.1,d.2.2.1,()),(i:Int),())=some ((nG (some l[i-1].1) (l.drop i)&& (decide (l.length<=100)&& l.all (iD d)),()),((),(),()))):=by
 have x:=c.n;intro n
 induction n with
 |zero=>
  intro i f o e b hi h;obtain⟨f,rfl⟩:∃g,f=g+1:=⟨f-1,by omega⟩;have j:¬((i:Int)<(l.length:Int)):=by omega
  have s:Eh k (l,((d.1,d.2.1,d.2.2.1,()),()),())=some ((l.all (iD d),()),((),((),()),())):=qe k m d r l c;rw[az,a1w (by omega)];simp only[JL.l0,an,a0e j,nG,a2d,s,aa];by_cases q:l.length<=100
  ·rw[ifPosQ,a0f q,a2d]
  ·rw[ifNegQ,a0n q];rfl
 |succ n ih=>
  intro i f o e b hi h;obtain⟨f,rfl⟩:∃g,f=g+1:=⟨f-1,by omega⟩;have a:i<l.length:=by omega
  have j:((i:Int)<(l.length:Int)):=by omega
  have u:(0:Int)<=(i:Int):=by omega
  have v:wrap .i64 ((i:Int)-1)=((i-1:Nat):Int):=by rw[ak (by omega) (by omega)];omega
  have w:(0:Int)<=((i-1:Nat):Int):=by omega
  rw[az,a1b a];simp only[JL.l0,an (p:=(i:Int)<(l.length:Int)),an (p:=(0:Int)<=(i:Int)),a0b j,a0b u,v,an (p:=(0:Int)<=((i-1:Nat):Int)),a0b w,a0j,a0a a,a0a b,aa,qV k m l[i-1].1 l[i].1 (c.t _ (a0l b)),nG,EG];rw[aH]
  cases decide (eD l[i-1].1 l[i].1>=0)with
  |true=>simp
  |false=>
   have:=ih (i+1) f (by omega) (by omega) (by omega) (by omega) (by omega);simp only[Nat.add_sub_cancel]at this;simpa using this
def EH (k:Nat) (b:4194304<k) (d:aw) (c:d.2.1.length<=3) (l:List aG) (a:qW l):JL k (d,l,())=some ((jo d l,()),((),(),())):=by
 have f:=a.n;unfold JL jo
 cases l with
 |nil=>
  obtain⟨j,rfl⟩:∃j,k=j+1:=⟨k-1,by omega⟩;have g:Eh (j+1) (([]:List aG),((d.1,d.2.1,d.2.2.1,()),()),())=some ((([]:List aG).all (iD d),()),((),((),()),())):=qe (j+1) b d c [] a;simp only;rw[az];simp only[JL.l0,an,a0h];rw[a0e (by decide),a0b (by decide),g];simp[nG]
 |cons p r=>
  have h:=yg k b d c (p::r) a r.length 1 k (a1n _) (by simp) (by simp) (by simp;omega) (by simp at f;omega);refine Eq.trans h ?_
  simp only[nG,EG,a2d];have e:(p::r)[1-1].1=p.1:=rfl;have i:(p::r).drop 1=r:=rfl;rw[e,i]
  cases nG (some p.1) r<;>simp
def nc (x y:bD):(nN x y= -1/\(x.1<y.1\/(x.1=y.1/\x.2.1<y.2.1)))\/(nN x y=1/\(y.1<x.1\/(x.1=y.1/\y.2.1<x.2.1)))\/(nN x y=0/\x.1=y.1/\x.2.1=y.2.1):=by
 unfold nN;by_cases a:x.1<y.1
 ·rw[a0b a];exact .inl ⟨rfl,.inl a⟩
 ·by_cases b:x.1>y.1
  ·rw[a0e a,a0b b];exact .inr (.inl ⟨rfl,.inl b⟩)
  ·by_cases c:x.2.1<y.2.1
   ·rw[a0e a,a0e b,a0b c];exact .inl ⟨rfl,.inr ⟨by omega,c⟩⟩
   ·by_cases d:x.2.1>y.2.1
    ·rw[a0e a,a0e b,a0e c,a0b d];exact .inr (.inl ⟨rfl,.inr ⟨by omega,d⟩⟩)
    ·rw[a0e a,a0e b,a0e c,a0e d];exact .inr (.inr ⟨rfl,by omega,by omega⟩)
def Ik:∀(a b c:List bD),a.length=b.length->b.length=c.length->oV a b<0->oV b c<=0->oV a c<0
 |[],[],_,_,_,h,_=>by simp[oV]at h
 |x::a,y::b,z::c,h1,h2,h,h'=>by
  have ih:=Ik a b c (by simpa using h1) (by simpa using h2);simp only[oV]at h h'⊢;rcases nc x y with⟨d,f1⟩|⟨d,f1⟩|⟨d,f1⟩<;>rcases nc y z with⟨e,f2⟩|⟨e,f2⟩|⟨e,f2⟩<;>rcases nc x z with⟨f,g⟩|⟨f,g⟩|⟨f,g⟩<;>simp only[d,e,f]at h h'⊢<;>simp at h h'⊢<;>first|omega|exact ih h h'
def vI {a b c:List bD} (h:eD a b<0) (d:eD b c<=0:=by omega):eD a c<0:=by
 unfold eD at h d⊢;by_cases f:a.length<b.length
 ·by_cases e:c.length<b.length
  ·rw[ifNegQ,ifPosQ]at d;omega
  ·rw[ifPosQ];decide
 ·by_cases e:a.length>b.length
  ·rw[a0e f,a0b e]at h;omega
  ·rw[a0e f,a0e e]at h
   by_cases g:b.length<c.length
   ·rw[ifPosQ];decide
   ·by_cases i:b.length>c.length
    ·rw[a0e g,a0b i]at d;omega
    ·rw[a0e g,a0e i]at d
     rw[ifNegQ,ifNegQ];exact Ik a b c (by omega) (by omega) h d
def EI:∀(l:List aG) (a:Option (List bD)),nG a l=true->(∀s,a=some s->∀p∈l,eD s p.1<0)/\l.Pairwise λp q=>eD p.1 q.1<0
 |[],_,_=>⟨λ_ _ p d=>by simp at d,.nil⟩
 |p::r,a,h=>by
  simp only[nG,a0c]at h;obtain⟨c,e⟩:=EI r (some p.1) h.2;refine⟨λs f q hq=> ?_,a4u.2 ⟨λq hq=>c p.1 rfl q hq,e⟩⟩;subst f;have b:eD s p.1<0:=by
   have:=h.1;simp only[EG,a2b,a8d]at this;omega
  rcases a1e.1 hq with rfl|hq
  ·exact b
  ·exact vI b (by have:=c p.1 rfl q hq;omega)
def Hb (b:Bool):Int:=cond b 1 0
def cp:List Bool->Int
 |[]=>0
 |b::r=>Hb b+2*cp r
def Hc (l:List Bool):∀ {i:Nat} (hi:i<l.length),cp (l.take (i+1))=cp (l.take i)+Hb l[i]*2^i:=by
 induction l with
 |nil=>intro i hi;simp at hi
 |cons b r ih=>
  intro i hi
  cases i with
  |zero=>simp[cp]
  |succ i=>
   have a:i<r.length:=by simpa using hi
   have:=ih (i:=i) a;simp only[List.take_succ_cons,cp,this,a6n,Int.pow_succ]
   generalize cp (r.take i)=A
   generalize Hb r[i]=B
   generalize (2:Int)^i=C
   rw[Int.mul_add,<-Int.add_assoc,a8s 2 (B*C),Int.mul_assoc]
def si:∀(l:List Bool),0<=cp l/\cp l<2^l.length
 |[]=>by simp[cp]
 |b::r=>by
  have:=si r;have h:(2:Int)^(b::r).length=2*2^r.length:=by rw[a0g,Int.pow_succ,a8s]
  rw[h];have a:0<=Hb b/\Hb b<=1:=by cases b<;>decide
  simp only[cp];omega
abbrev aU:=Int×Int×List bU×List bU×Int×Int×Unit
def ej (n:Int):Bool:=n==5||(n==6||(n==9||n==10))
def eV (n:Int):Bool:=n==9||n==10
def ff (st:List Int) (a:Int):Option (List Int):=
 if ej a=true then some (a::st)else
 if a=7 then(match st with|t::r=>if t=5\/t=6 then some (7::r)else none|[]=>none)else
 if a=8 then(match st with|_::r=>some r|[]=>none)else some st
def d4:List Int->List Int->Option (List Int)
 |st,[]=>some st
 |st,n::r=>(ff st n).bind λs=>d4 s r
def kL:Option (List Int)->Bool
 |some []=>true
 |_=>false
def mc (l:List aU):Bool:=kL (d4 [] (l.map (·.1)))
def bZ:aU:=(0,0,[],[],0,0,())
def dg (l:List aU) (x:Int):Int:=(l.getD x.toNat bZ).1
def qX (k:Nat) (n:Int):Ck k (n,())=some ((eV n,()),((),())):=by
 unfold Ck eV;simp only
 cases (n==9)<;>simp
def nd (k:Nat) (n:Int):Gk k (n,())=some ((ej n,()),((),())):=by
 unfold Gk ej;simp only[qX,aa,eV]
 cases (n==5)<;>cases (n==6)<;>simp
def md:ff [] 7=none:=by decide
def me:ff [] 8=none:=by decide
def oW (h:t=5\/t=6):ff (t::r) 7=some (7::r):=by
 simp[ff,ej,h]
def oX (h:¬(t=5\/t=6)):ff (t::r) 7=none:=by
 unfold ff;rw[a0e (by decide),a0b rfl];simp only[a0e h]
def oY:ff (t::r) 8=some r:=by simp[ff,ej]
def fj (l:List aU) (a:0<=x) (h:x.toNat<l.length):dg l x=l[x.toNat].1:=by
 simp[dg,List.getD,a0a h]
def vo (k:Nat) (l:List aU) (hl:l.length<=30):∀(n i f:Nat) (a op:List Int),i+n=l.length->n<f->a.length=i->op.length<=i->(∀x∈op,0<=x/\x<(i:Int))->∃o m,aP (vF.l0 k) f (l,a,op,(i:Int),())=some ((o,m,()),((),()))/\decide (m>(l.length:Int))=kL (d4 ((op.map (dg l)).reverse) ((l.drop i).map (·.1))):=by
 intro n
 induction n with
 |zero=>
  intro i f a op hi U V C B;obtain⟨f,rfl⟩:∃g,f=g+1:=⟨f-1,by omega⟩;have D:¬((i:Int)<(l.length:Int)):=by omega
  rw[az,a1w (by omega)];simp only[vF.l0,an,a0e D,a3x,d4];by_cases b:(op.length:Int)>0
  ·refine⟨[],(l.length:Int),by rw[a0b b],?_⟩
   cases op with
   |nil=>simp at b
   |cons x r=>
    have:¬((l.length:Int)>(l.length:Int)):=by omega
    rw[a0n this]
    cases hr:((x::r).map (dg l)).reverse with
    |nil=>simp at hr
    |cons y z=>rfl
  ·have:op=[]:=by cases op with|nil=>rfl|cons x r=>simp at b
   subst this;refine⟨a,wrap .i64 ((l.length:Int)+1),by rw[a0e b],?_⟩;rw[ak (by omega) (by omega)];have:(l.length:Int)+1>(l.length:Int):=by omega
   rw[a0f this];rfl
 |succ n ih=>
  intro i f a op hi U V C B;obtain⟨f,rfl⟩:∃g,f=g+1:=⟨f-1,by omega⟩;have s:i<l.length:=by omega
  have D:((i:Int)<(l.length:Int)):=by omega
  have E:(0:Int)<=(i:Int):=by omega
  have N:(a.length+([((i+1:Nat):Int)]:List Int).length)*8<=af:=by simp[af];omega
  have O:(op.length+([(i:Int)]:List Int).length)*8<=af:=by simp[af];omega
  have P:=aH (i:=i);have Q:dg l (i:Int)=l[i].1:=by rw[fj l E (by simpa using s)];simp
  rw[az,a1b s,a2f];have e:ej l[i].1=true->∃o m,aP (vF.l0 k) f (l,a++[((i+1:Nat):Int)],op++[(i:Int)],((i+1:Nat):Int),())=some ((o,m,()),((),()))/\decide (m>(l.length:Int))=kL (d4 ((op.map (dg l)).reverse) (l[i].1::(l.drop (i+1)).map (·.1))):=by
   intro b;obtain⟨o,m,u,v⟩:=ih (i+1) f (a++[((i+1:Nat):Int)]) (op++[(i:Int)]) (by omega) (by omega) (by simp;omega) (by simp;omega) (λx h=>by
    rcases a0k.1 h with h|h
    ·have:=B x h;omega
    ·simp at h;omega)
   refine⟨o,m,u,?_⟩;rw[v,a3d,a5f];simp only[a2f,a3x,a6s,a6y,a2j,a5i,Q,d4,ff,a0b b,a0d]
  have j:ej l[i].1=false->l[i].1≠7->l[i].1≠8->∃o m,aP (vF.l0 k) f (l,a++[((i+1:Nat):Int)],op,((i+1:Nat):Int),())=some ((o,m,()),((),()))/\decide (m>(l.length:Int))=kL (d4 ((op.map (dg l)).reverse) (l[i].1::(l.drop (i+1)).map (·.1))):=by
   intro b c q;obtain⟨o,m,u,v⟩:=ih (i+1) f (a++[((i+1:Nat):Int)]) op (by omega) (by omega) (by simp;omega) (by omega) (λx h=>by have:=B x h;omega);refine⟨o,m,u,?_⟩;rw[v];simp only[d4,ff,b,a0u,a1z,a0e c,a0e q,a0d]
  rcases a4e op with hn|⟨ini,t,hc⟩
  ·subst hn
   have F:¬((([]:List Int).length:Int)>0):=by simp
   simp only[vF.l0,an (p:=(i:Int)<(l.length:Int)),a0b D,an (p:=(0:Int)<=(i:Int)),a0b E,P,an (p:=(a.length+([((i+1:Nat):Int)]:List Int).length)*8<=af),a0b N,an (p:=(([]:List Int).length:Int)>0),a0e F,a0j,a0a s,aa,nd]
   cases b:ej l[i].1 with
   |true=>
    simp only[ai,an,a0b O];exact e b
   |false=>
    simp only[ah,bP];by_cases c:l[i].1=7
    ·refine⟨[],(i:Int),by simp[a0b c],?_⟩
     have:¬((i:Int)>(l.length:Int)):=by omega
     rw[a0n this];rw[c];simp[d4,md,kL]
    ·by_cases q:l[i].1=8
     ·refine⟨[],(i:Int),by simp[a0e c,a0b q],?_⟩
      have:¬((i:Int)>(l.length:Int)):=by omega
      rw[a0n this];rw[q];simp[d4,me,kL]
     ·simp only[a0e c,a0e q]
      exact j b c q
  ·rw[a3s]at hc
   subst hc;have G:=B t (by simp);have w:t.toNat<l.length:=by omega
   have F:(((ini++[t]).length:Int)>0):=by simp only[a0m,a0g,a0h];omega
   have W:(((ini++[t]).length:Int)-1)=(ini.length:Int):=by simp
   have H:wrap .i64 (ini.length:Int)=(ini.length:Int):=ak (by omega) (by simp at C;omega);have c1:0<=(ini.length:Int)/\(ini.length:Int)<((ini++[t]).length:Int):=by simp only[a0m,a0g,a0h];omega
   have c2:0<=(ini.length:Int)/\(ini.length:Int)<=((ini++[t]).length:Int):=by simp only[a0m,a0g,a0h];omega
   have X:(ini++[t])[ini.length]?=some t:=by simp
   have Y:=fj l G.1 w;have R:0<=t/\t<((a++[((i+1:Nat):Int)]).length:Int):=by simp;omega
   have S:¬t<0:=by omega
   obtain⟨y8,T⟩:∃y,(a++[((i+1:Nat):Int)])[t.toNat]?=some y:=⟨_,a0a (by simp;omega)⟩;have Z:aO (ini++[t]) ((0:Int).toNat) (ini.length-(0:Int).toNat)=ini:=by simp[aO]
   have I:(((ini++[t]).map (dg l)).reverse)=l[t.toNat].1::(ini.map (dg l)).reverse:=by simp[Y]
   simp only[vF.l0,an (p:=(i:Int)<(l.length:Int)),a0b D,an (p:=(0:Int)<=(i:Int)),a0b E,P,an (p:=(a.length+([((i+1:Nat):Int)]:List Int).length)*8<=af),a0b N,an (p:=((ini++[t]).length:Int)>0),a0b F,W,H,an (p:=0<=(ini.length:Int)/\(ini.length:Int)<((ini++[t]).length:Int)),a0b c1,a0j,X,a0a s,aa,nd]
   cases b:ej l[i].1 with
   |true=>
    simp only[ai,an,a0b O];exact e b
   |false=>
    simp only[ah,bP];by_cases c:l[i].1=7
    ·simp only[a0b c,an,a0e S,a0b G.1,a0a w,aa]
     by_cases A:l[t.toNat].1=5\/l[t.toNat].1=6
     ·have J:(br k (l[t.toNat].1 !=5) (some (l[t.toNat].1 !=6,())) (some (false,())):Option (Bool×Unit))=some (false,()):=by
       rcases A with h|h<;>simp[h]
      simp only[J,a0d,ah,a0b R,T,aa,a0b c1];obtain⟨o,m,u,v⟩:=ih (i+1) f ((a++[((i+1:Nat):Int)]).set t.toNat ((i+1:Nat):Int)) (ini++[(i:Int)]) (by omega) (by omega) (by simp;omega) (by simp at C⊢;omega) (λx h=>by
       rcases a0k.1 h with h|h
       ·have:=B x (by simp[h]);omega
       ·simp at h;omega)
      have K:(ini++[t]).set ini.length (i:Int)=ini++[(i:Int)]:=by simp
      refine⟨o,m,by rw[K];exact u,?_⟩;rw[v,I];simp only[a3d,a2f,a3x,a5f,a6s,a6y,a2j,a5i,Q,c,d4,oW A,a0d]
     ·have J:(br k (l[t.toNat].1 !=5) (some (l[t.toNat].1 !=6,())) (some (false,())):Option (Bool×Unit))=some (true,()):=by
       have a5:(l[t.toNat].1 !=5)=true:=by simp;omega
       have a6:(l[t.toNat].1 !=6)=true:=by simp;omega
       rw[a5,a6,ai]
      refine⟨[],(i:Int),by simp only[J,a0d,ai],?_⟩;have:¬((i:Int)>(l.length:Int)):=by omega
      rw[a0n this,I];simp only[c,d4,oX A,a5l,kL]
    ·by_cases q:l[i].1=8
     ·have done:∀d:List Int,d.length=i+1->∃o m,aP (vF.l0 k) f (l,d,ini,((i+1:Nat):Int),())=some ((o,m,()),((),()))/\decide (m>(l.length:Int))=kL (d4 (((ini++[t]).map (dg l)).reverse) (l[i].1::(l.drop (i+1)).map (·.1))):=by
       intro d L;obtain⟨o,m,u,v⟩:=ih (i+1) f d ini (by omega) (by omega) L (by simp at C;omega) (λx h=>by have:=B x (by simp[h]);omega);refine⟨o,m,u,?_⟩;rw[v,I];simp only[q,d4,oY,a0d]
      have c5:0<=t/\t<(((a++[((i+1:Nat):Int)]).set t.toNat (i:Int)).length:Int):=by simp;omega
      obtain⟨z,ez⟩:∃y,((a++[((i+1:Nat):Int)]).set t.toNat (i:Int))[t.toNat]?=some y:=⟨_,a0a (by simp;omega)⟩;have c6:0<=(i:Int)/\(i:Int)<((((a++[((i+1:Nat):Int)]).set t.toNat (i:Int)).set t.toNat ((i+1:Nat):Int)).length:Int):=by simp;omega
      obtain⟨z2,M⟩:∃y,(((a++[((i+1:Nat):Int)]).set t.toNat (i:Int)).set t.toNat ((i+1:Nat):Int))[i]?=some y:=⟨_,a0a (by simp;omega)⟩;simp only[a0e c,a0b q,an,a0e S,a0b c2,a0b R,T,aa,a0b G.1,a0a w,qX,Z,a0b c5,ez,a0b c6,M]
      cases eV l[t.toNat].1 with
      |true=>rw[ai];exact done _ (by simp;omega)
      |false=>rw[ah];exact done _ (by simp;omega)
     ·simp only[a0e c,a0e q]
      exact j b c q
abbrev CV:=Int×Int×Unit
def cf (l:List aU) (x:CV):Int:=if x.2.1>=0 then 7 else dg l x.1
def lk (k:Nat) (n:aU):Gu k (n,())=some ((n.1==5||n.1==6,()),((),())):=by
 unfold Gu;simp only
 cases (n.1==5)<;>simp
def pE (k:Nat) (n:aU):Ea k (n,())=some ((eV n.1,()),((),())):=by
 unfold Ea eV;simp only
 cases (n.1==9)<;>simp
def u1 (n:Int):ej n=((n==5||n==6)||eV n):=by
 unfold ej eV
 cases (n==5)<;>cases (n==6)<;>rfl
def vp (k:Nat) (l:List aU) (hl:l.length<=30):∀(n i f:Nat) (a:List Int) (op:List CV),i+n=l.length->n<f->a.length=l.length->op.length<=i->(∀x∈op,(0<=x.1/\x.1<(i:Int))/\x.2.1<(i:Int))->∃o,aP (zC.l0 k) f (l,a,(op,()),(l.length:Int),(i:Int),())=some ((o,kL (d4 ((op.map (cf l)).reverse) ((l.drop i).map (·.1))),()),((),())):=by
 intro n
 induction n with
 |zero=>
  intro i f a op hi U V F I;obtain⟨f,rfl⟩:∃g,f=g+1:=⟨f-1,by omega⟩;have D:¬((i:Int)<(l.length:Int)):=by omega
  rw[az,a1w (by omega)];simp only[zC.l0,an,a0e D,a3x,d4];refine⟨a,?_⟩
  cases op with
  |nil=>rfl
  |cons x r=>
   have:(((x::r).length:Int)==0)=false:=by simp;omega
   rw[this]
   cases hr:((x::r).map (cf l)).reverse with
   |nil=>simp at hr
   |cons y z=>rfl
 |succ n ih=>
  intro i f a op hi U V F I;obtain⟨f,rfl⟩:∃g,f=g+1:=⟨f-1,by omega⟩;have w:i<l.length:=by omega
  have D:((i:Int)<(l.length:Int)):=by omega
  have G:(0:Int)<=(i:Int):=by omega
  have W:0<=(i:Int)/\(i:Int)<(a.length:Int):=by omega
  have X:(op.length+([((i:Int),(-1),())]:List CV).length)*16<=af:=by simp[af];omega
  have Y:=aH (i:=i);have Z:cf l ((i:Int),(-1),())=l[i].1:=by
   unfold cf;rw[a0e (show¬((-1:Int)>=0) by decide),fj l G (by simpa using w)];simp
  obtain⟨y1,eo⟩:∃y,a[i]?=some y:=⟨_,a0a (by omega)⟩;have next:∀j:List CV,(∀x∈j,(0<=x.1/\x.1<((i+1:Nat):Int))/\x.2.1<((i+1:Nat):Int))->j.length<=i+1->∀b:List Int,b.length=l.length->∃o,aP (zC.l0 k) f (l,b,(j,()),(l.length:Int),((i+1:Nat):Int),())=some ((o,kL (d4 ((j.map (cf l)).reverse) ((l.drop (i+1)).map (·.1))),()),((),())):=λj h1 D b G=>ih (i+1) f b j (by omega) (by omega) G D h1
  have J:∀x∈op,(0<=x.1/\x.1<((i+1:Nat):Int))/\x.2.1<((i+1:Nat):Int):=λx h=>by have:=I x h;omega
  have H:(a.set i ((i+1:Nat):Int)).length=l.length:=by simp;omega
  rw[az,a1b w,a2f];simp only[zC.l0,Jx,an (p:=(i:Int)<(l.length:Int)),a0b D,an (p:=(0:Int)<=(i:Int)),a0b G,an (p:=0<=(i:Int)/\(i:Int)<(a.length:Int)),a0b W,Y,a0j,eo,a0a w,aa,lk,pE];have hq:(br k (l[i].1==5||l[i].1==6) (some (true,())) (some (eV l[i].1,())):Option (Bool×Unit))=some (ej l[i].1,()):=by
   rw[u1];cases (l[i].1==5||l[i].1==6)<;>simp
  simp only[hq,a0d]
  cases hop:ej l[i].1 with
  |true=>
   have u:(l[i].1 !=8)=true:=by
    by_cases h:l[i].1=8
    ·rw[h]at hop;exact absurd hop (by decide)
    ·simpa using h
   simp only[ai,an,a0b X,aa,a0t,ah,u];obtain⟨o,e⟩:=next (op++[((i:Int),(-1),())]) (λx h=>by
    rcases a0k.1 h with h|h
    ·exact J x h
    ·simp at h;subst h;simp;omega) (by simp;omega) _ H
   refine⟨o,e.trans ?_⟩;simp only[a3d,a2f,a3x,a5f,a6s,a6y,a2j,a5i,Z,d4,ff,a0b hop,a0d]
  |false=>
   simp only[ah,bP];rcases a4e op with hn|⟨ini,t,hc⟩
   ·subst hn
    have E:wrap .i64 ((([]:List CV).length:Int)-1)<0:=by rw[ak (by simp) (by simp)];simp
    by_cases m:l[i].1=7
    ·refine⟨[],?_⟩
     simp only[a0b m,an,a0b E,a0d,ai,aa,a0y];rw[m];simp[d4,md,kL]
    ·by_cases q:l[i].1=8
     ·refine⟨[],?_⟩
      simp only[a0e m,a0b q,an,a0b E,aa,a0y,ai];rw[q];simp[d4,me,kL]
     ·have u:(l[i].1 !=8)=true:=by simpa using q
      simp only[a0e m,a0e q,aa,a0t,ah,u,ai];obtain⟨o,e⟩:=next [] (λx h=>by simp at h) (by simp) _ H;refine⟨o,e.trans ?_⟩;simp only[d4,ff,hop,a0u,a1z,a0e m,a0e q,a0d]
   ·rw[a3s]at hc
    subst hc;obtain⟨⟨A,S0⟩,S1⟩:=I t (by simp);have B:t.1.toNat<l.length:=by omega
    have el:(((ini++[t]).length:Int)-1)=(ini.length:Int):=by simp
    have K:wrap .i64 (ini.length:Int)=(ini.length:Int):=ak (by omega) (by simp at F;omega);have E:¬(ini.length:Int)<0:=by omega
    have c1:0<=(ini.length:Int)/\(ini.length:Int)<((ini++[t]).length:Int):=by simp only[a0m,a0g,a0h];omega
    have c2:0<=(ini.length:Int)/\(ini.length:Int)<=((ini++[t]).length:Int):=by simp only[a0m,a0g,a0h];omega
    have eg:(ini++[t])[ini.length]?=some t:=by simp
    have T:=fj l A B;have es:aO (ini++[t]) ((0:Int).toNat) (ini.length-(0:Int).toNat)=ini:=by simp[aO]
    have L:(((ini++[t]).map (cf l)).reverse)=cf l t::(ini.map (cf l)).reverse:=by simp
    have s:∀x∈ini,(0<=x.1/\x.1<((i+1:Nat):Int))/\x.2.1<((i+1:Nat):Int):=λx h=>J x (by simp[h])
    simp only[el,K,a0j,eg];by_cases m:l[i].1=7
    ·simp only[a0b m,an,a0e E,a0b c1,a0b A,aa,a0a B,lk]
     by_cases c:cf l t=5\/cf l t=6
     ·have v:¬t.2.1>=0:=by
       intro h;unfold cf at c;rw[a0b h]at c;omega
      have M:l[t.1.toNat].1=5\/l[t.1.toNat].1=6:=by
       unfold cf at c;rw[a0e v,T]at c;exact c
      have C:(br k (!(l[t.1.toNat].1==5||l[t.1.toNat].1==6)) (some (true,())) (some (decide (t.2.1>=0),())):Option (Bool×Unit))=some (false,()):=by
       have:(l[t.1.toNat].1==5||l[t.1.toNat].1==6)=true:=by rcases M with h|h<;>simp[h]
       rw[this,a0t,ah,a0n v]
      have u:(l[i].1 !=8)=true:=by rw[m];decide
      simp only[C,a0d,ah,aa,a0t,u,ai];have N:(ini++[t]).set ini.length (t.1,(i:Int),())=ini++[(t.1,(i:Int),())]:=by simp
      rw[N];obtain⟨o,e⟩:=next (ini++[(t.1,(i:Int),())]) (λx h=>by
       rcases a0k.1 h with h|h
       ·exact s x h
       ·simp at h;subst h;simp;omega) (by simp at F⊢;omega) _ H
      refine⟨o,e.trans ?_⟩;have k7:cf l (t.1,(i:Int),())=7:=by unfold cf;rw[ifPosQ]
      rw[L,m];simp only[a3d,a2f,a3x,a5f,a6s,a6y,a2j,a5i,k7,d4,oW c,a0d]
     ·have C:(br k (!(l[t.1.toNat].1==5||l[t.1.toNat].1==6)) (some (true,())) (some (decide (t.2.1>=0),())):Option (Bool×Unit))=some (true,()):=by
       by_cases d:t.2.1>=0
       ·rw[a0f d]
        cases (l[t.1.toNat].1==5||l[t.1.toNat].1==6)<;>simp
       ·unfold cf at c
        rw[a0e d,T]at c;have:(l[t.1.toNat].1==5||l[t.1.toNat].1==6)=false:=by simp;omega
        rw[this,a0y,ai]
      refine⟨[],?_⟩;simp only[C,a0d,ai,aa,a0y];rw[L,m];simp only[d4,oX c,a5l,kL]
    ·by_cases q:l[i].1=8
     ·have u:(l[i].1 !=8)=false:=by rw[q];decide
      have done:∀b:List Int,b.length=l.length->∃o,aP (zC.l0 k) f (l,b,(ini,()),(l.length:Int),((i+1:Nat):Int),())=some ((o,kL (d4 (((ini++[t]).map (cf l)).reverse) (l[i].1::(l.drop (i+1)).map (·.1))),()),((),())):=by
       intro b O;obtain⟨o,e⟩:=next ini s (by simp at F;omega) b O;refine⟨o,e.trans ?_⟩;rw[L,q];simp only[d4,oY,a0d]
      simp only[a0e m,a0b q,an,a0e E,a0b c1,a0b c2,es,aa,a0t,ah,u];have c3:0<=t.1/\t.1<((a.set i ((i+1:Nat):Int)).length:Int):=by simp;omega
      obtain⟨a1,P⟩:∃y,(a.set i ((i+1:Nat):Int))[t.1.toNat]?=some y:=⟨_,a0a (by simp;omega)⟩;have c4:0<=t.1/\t.1<(((a.set i ((i+1:Nat):Int)).set t.1.toNat (i:Int)).length:Int):=by simp;omega
      obtain⟨a2,Q⟩:∃y,((a.set i ((i+1:Nat):Int)).set t.1.toNat (i:Int))[t.1.toNat]?=some y:=⟨_,a0a (by simp;omega)⟩;have c5:0<=(i:Int)/\(i:Int)<((((a.set i ((i+1:Nat):Int)).set t.1.toNat (i:Int)).set t.1.toNat ((i+1:Nat):Int)).length:Int):=by simp;omega
      obtain⟨a3,R⟩:∃y,(((a.set i ((i+1:Nat):Int)).set t.1.toNat (i:Int)).set t.1.toNat ((i+1:Nat):Int))[i]?=some y:=⟨_,a0a (by simp;omega)⟩;simp only[a0b c3,P,aa,a0b A,a0a B,pE,a0b c4,Q,a0b c5,R]
      cases eV l[t.1.toNat].1 with
      |true=>rw[ai];exact done _ (by simp;omega)
      |false=>
       rw[ah];by_cases d:t.2.1>=0
       ·have c6:0<=t.2.1/\t.2.1<((((a.set i ((i+1:Nat):Int)).set t.1.toNat (i:Int)).set t.1.toNat (wrap .i64 (t.2.1+1))).length:Int):=by simp;omega
        obtain⟨a4,S⟩:∃y,(((a.set i ((i+1:Nat):Int)).set t.1.toNat (i:Int)).set t.1.toNat (wrap .i64 (t.2.1+1)))[t.2.1.toNat]?=some y:=⟨_,a0a (by simp;omega)⟩;simp only[a0b d,a0b c6,S,aa];exact done _ (by simp;omega)
       ·simp only[a0e d]
        exact done _ (by simp;omega)
     ·have u:(l[i].1 !=8)=true:=by simpa using q
      simp only[a0e m,a0e q,aa,a0t,ah,u,ai];obtain⟨o,e⟩:=next (ini++[t]) J (by omega) _ H;refine⟨o,e.trans ?_⟩;simp only[d4,ff,hop,a0u,a1z,a0e m,a0e q,a0d]
def yh (k:Nat) (d:4194304<k) (l:List aU) (a:l.length<=30):∃o m,vF k (l,())=some ((o,m,()),((),()))/\decide (m>(l.length:Int))=mc l:=by
 obtain⟨o,m,b,c⟩:=vo k l a l.length 0 k [] [] (by omega) (by omega) rfl (a1n _) (λx h=>by simp at h);exact⟨o,m,b,c⟩
def yi (k:Nat) (c:4194304<k) (l:List aU) (a:l.length<=30):∃o,zC k (l,())=some ((o,mc l,()),((),())):=by
 unfold zC;have b:0<=(l.length:Int)/\(l.length:Int)<=(l.length:Int)/\(l.length:Int)*8<=af:=by simp[af];omega
 simp only[an,a0b b,a0j];obtain⟨o,h⟩:=vp k l a l.length 0 k (List.replicate l.length (Kd.z (.int .i64))) [] (by omega) (by omega) (by simp) (a1n _) (λx h=>by simp at h);exact⟨o,h⟩
def u2 (n:Nat) (v:Int):Bool:=decide (0<=v/\v<=(n:Int)-1)
def fK {α:Type} (l:List α):Bool:=(l.length:Int)==0
def hZ (lo hi:Int):Bool:=decide (-999999999999999999<=lo/\lo<=hi)&& decide (hi<=999999999999999999)
def bz (d:aw) (n:aU):Bool:=
 if n.1=1 then u2 d.1.length n.2.1&& (fK n.2.2.1&& ((bI d n.2.2.2.1==1)&& ((n.2.2.2.2.1==0)&& (n.2.2.2.2.2.1==0))))
 else if n.1=2 then u2 d.2.1.length n.2.1&& (fK n.2.2.1&& ((bI d n.2.2.2.1==2)&& ((n.2.2.2.2.1==0)&& (n.2.2.2.2.2.1==0))))
 else if n.1=3 then u2 d.2.2.1.length n.2.1&& ((bI d n.2.2.1==1)&& ((bI d n.2.2.2.1==1)&& ((n.2.2.2.2.1==0)&& (n.2.2.2.2.2.1==0))))
 else if n.1=4 then u2 d.1.length n.2.1&& (fK n.2.2.1&& (fK n.2.2.2.1&& hZ n.2.2.2.2.1 n.2.2.2.2.2.1))
 else if n.1=13 then u2 d.1.length n.2.1&& (fK n.2.2.1&& (fK n.2.2.2.1&& (hZ n.2.2.2.2.1 n.2.2.2.2.2.1&& decide (n.2.2.2.2.2.1<=n.2.2.2.2.1+3))))
 else if n.1=10 then(n.2.1==0)&& (fK n.2.2.1&& ((bI d n.2.2.2.1==2)&& (decide (1<=n.2.2.2.2.1/\n.2.2.2.2.1<=3)&& (n.2.2.2.2.2.1==0))))
 else if n.1=5\/n.1=6\/n.1=9\/n.1=11\/n.1=12 then(n.2.1==0)&& (fK n.2.2.1&& ((bI d n.2.2.2.1==2)&& ((n.2.2.2.2.1==0)&& (n.2.2.2.2.2.1==0))))
 else if n.1=7\/n.1=8\/n.1=14 then(n.2.1==0)&& (fK n.2.2.1&& (fK n.2.2.2.1&& ((n.2.2.2.2.1==0)&& (n.2.2.2.2.2.1==0))))
 else false
def gW (n:Int):n=1\/n=2\/n=3\/n=4\/n=5\/n=6\/n=7\/n=8\/n=9\/n=10\/n=11\/n=12\/n=13\/n=14\/(n<1\/14<n):=by omega
def KE (k:Nat) (a b c:Int) (f:_->Option α):bd k (z7 k (a,b,c,())) f=f ((decide (b<=a/\a<=c),()),((),(),(),())):=by rw[cI,aa]
def Nf (k:Nat) (l:dM) (f:_->Option α):bd k (Mo k (l,())) f=f (((l.length:Int),()),((),())):=by unfold Mo;rw[aa]
def Ng (k:Nat) (l:List kF) (f:_->Option α):bd k (Cq k (l,())) f=f (((l.length:Int),()),((),())):=by unfold Cq;rw[aa]
def Hd (k:Nat) (n:aU):Fh k (n,())=some (((n.2.1==0)&& (fK n.2.2.1&& (fK n.2.2.2.1&& ((n.2.2.2.2.1==0)&& (n.2.2.2.2.2.1==0)))),()),((),())):=by
 unfold Fh fK;simp only
 cases (n.2.1==0)<;>cases ((n.2.2.1.length:Int)==0)<;>cases ((n.2.2.2.1.length:Int)==0)<;>cases (n.2.2.2.2.1==0)<;>simp
def He (k:Nat) (n:aU):xm k (n,())=some ((hZ n.2.2.2.2.1 n.2.2.2.2.2.1,()),((),())):=by
 unfold xm hZ;simp only[cI,aa]
 cases decide (-999999999999999999<=n.2.2.2.2.1/\n.2.2.2.2.1<=n.2.2.2.2.2.1)<;>simp
def Nh (k:Nat) (n:aU) (f:_->Option α):bd k (Fh k (n,())) f=f (((n.2.1==0)&& (fK n.2.2.1&& (fK n.2.2.2.1&& ((n.2.2.2.2.1==0)&& (n.2.2.2.2.2.1==0)))),()),((),())):=by rw[Hd,aa]
def O7 (k:Nat) (n:aU) (f:_->Option α):bd k (xm k (n,())) f=f ((hZ n.2.2.2.2.1 n.2.2.2.2.2.1,()),((),())):=by rw[He,aa]
def bn (n:Int):Int:=if n=1\/n=3 then 1 else if n=2\/n=5\/n=6\/n=9\/n=10\/n=11\/n=12 then 2 else 0
def f8 (k:Nat) (n:Int):Co k (n,())=some ((bn n,()),((),())):=by
 rcases gW n with rfl|rfl|rfl|rfl|rfl|rfl|rfl|rfl|rfl|rfl|rfl|rfl|rfl|rfl|h
 all_goals first
  |(unfold Co bn;simp[bP];done)
  |(
   have e:∀c:Int,1<=c->c<=14->¬n=c:=λc a b=>by omega
   unfold Co bn;simp[bP,e])
def KF (k:Nat) (r:4194304<k) (c:k<=4611686018427387903) (d:aw) (e:eL d) (n:aU) (s:n.2.2.1.length<=1048576) (t:n.2.2.2.1.length<=1048576):AG k (d,n,())=some ((bz d n,()),((),(),())):=by
 obtain⟨a,v,I,E,lo,hi,⟨⟩⟩:=n;simp only at s t;have K:=e.n0;have L:=e.n1;have n2:=e.n2;have u:=ak (n:=(d.1.length:Int)-1) (by omega) (by omega);have w1:=ak (n:=(d.2.1.length:Int)-1) (by omega) (by omega);have w:=ak (n:=(d.2.2.1.length:Int)-1) (by omega) (by omega);have x:∀ {α:Type} (f:_->Option α),bd k (Gs k (d,E,())) f=f ((bI d E,()),((),(),())):=λf=>by rw[AY k r c d e E t,aa]
 have y:∀ {α:Type} (f:_->Option α),bd k (Gs k (d,I,())) f=f ((bI d I,()),((),(),())):=λf=>by rw[AY k r c d e I s,aa]
 unfold AG bz;rcases gW a with rfl|rfl|rfl|rfl|rfl|rfl|rfl|rfl|rfl|rfl|rfl|rfl|rfl|rfl|h
 all_goals (simp(config:= {failIfUnchanged:=false}) only[fL,AG.h7,AG.h11,AG.h12,f8,bn,aa,bP,an,x,y,Nf,Ng,KE,Nh,O7,u,w1,w,↓reduceIte,Int.reduceEq,Int.reduceLT,Int.reduceGT,Int.reduceLE,Int.reduceNe,a8e,a8f,a4r,a6t,a0d,ai,ah,Int.reduceBEq,Int.reduceBNe,a6x])
 case inr.inr.inr.inr.inr.inr.inr.inr.inr.inr.inr.inr.inr.inr=>
  have z:¬a=1:=by omega
  have A:¬a=2:=by omega
  have B:¬a=3:=by omega
  have C:¬a=4:=by omega
  have D:¬a=5:=by omega
  have F:¬a=6:=by omega
  have G:¬a=7:=by omega
  have H:¬a=8:=by omega
  have J:¬a=9:=by omega
  have i:¬a=10:=by omega
  have j:¬a=11:=by omega
  have l:¬a=12:=by omega
  have g:¬a=13:=by omega
  have m:¬a=14:=by omega
  have o:¬(1<=a/\a<=14):=by omega
  have p:(a==13)=false:=by simpa using g
  simp only[z,A,B,C,D,F,G,H,J,i,j,l,g,m,o,p,a9i,↓reduceIte,a0d,ah,Int.reduceLT]
 case inr.inr.inr.inr.inr.inr.inr.inr.inr.inr.inr.inr.inl=>
  by_cases b:0<=v/\v<=(d.1.length:Int)-1
  ·cases he:hZ lo hi with
   |false=>simp[u2,b,he]
   |true=>
    have M:(-999999999999999999<=lo/\lo<=hi)/\hi<=999999999999999999:=by
     unfold hZ at he;rw[a0c]at he;exact⟨a0z he.1,a0z he.2⟩
    have q:decide (hi-lo<=3)=decide (hi<=lo+3):=by apply a8l.2;omega
    rw[ak (n:=hi-lo) (by omega) (by omega),q]
    cases decide (hi<=lo+3)<;>simp[u2,b,fK]
  ·simp[u2,b]
 case inr.inr.inr.inr.inr.inr.inr.inr.inr.inl=>
  by_cases b:1<=lo/\lo<=3<;>cases he:(bI d E==2)<;>simp[bne,u2,b,he,fK]
 case inl=>
  by_cases b:0<=v/\v<=(d.1.length:Int)-1<;>cases he:(bI d E==1)<;>simp[bne,u2,b,he,fK]
 case inr.inl=>
  by_cases b:0<=v/\v<=(d.2.1.length:Int)-1<;>cases he:(bI d E==2)<;>simp[bne,u2,b,he,fK]
 case inr.inr.inl=>
  by_cases b:0<=v/\v<=(d.2.2.1.length:Int)-1<;>cases he:(bI d E==1)<;>cases hi:(bI d I==1)<;>simp[bne,u2,b,he,hi,fK]
 case inr.inr.inr.inl=>
  by_cases b:0<=v/\v<=(d.1.length:Int)-1<;>cases he:hZ lo hi<;>simp[bne,u2,b,he,fK]
 all_goals (cases he:(bI d E==2)<;>simp[bne,he,fK])
def Il (d:aw) (n:Int):Int:=if n=1\/n=4\/n=13 then(d.1.length:Int)else if n=2 then(d.2.1.length:Int)else if n=3 then(d.2.2.1.length:Int)else-1
def Bc (k:Nat) (d:aw) (n:Int):Gi k (d,n,())=some ((Il d n,n==3,bn n,(n==4||(n==10||n==13)),()),((),(),())):=by
 rcases gW n with rfl|rfl|rfl|rfl|rfl|rfl|rfl|rfl|rfl|rfl|rfl|rfl|rfl|rfl|h
 all_goals first
  |(unfold Gi bn Il;simp[bP];done)
  |(
   have e:∀c:Int,1<=c->c<=14->¬n=c:=λc i j=>by omega
   have f:(n==3)=false:=by simpa using e 3 (by omega) (by omega)
   have g:(n==4)=false:=by simpa using e 4 (by omega) (by omega)
   have a:(n==10)=false:=by simpa using e 10 (by omega) (by omega)
   have b:(n==13)=false:=by simpa using e 13 (by omega) (by omega)
   unfold Gi bn Il;simp[bP,e,f,g,a,b])
def PS (k:Nat) (a b c:Int) (f:_->Option α):bd k (pO k (a,b,c,())) f=f ((decide (b<=a/\a<=c),()),((),(),(),())):=by rw[jV,aa]
def CW (l:List α):decide ((l.length:Int)>0)= !fK l:=by
 unfold fK
 cases l with
 |nil=>rfl
 |cons x r=>simp;omega
def sj (lo hi:Int):hZ lo hi=(decide (-999999999999999999<=lo/\lo<=999999999999999999)&& decide (lo<=hi/\hi<=999999999999999999)):=by
 rw[a7h];simp only[hZ,a0c,a0q];omega
def KG (k:Nat) (t:4194304<k) (e:k<=4611686018427387903) (d:aw) (g:eL d) (i:aY d=true) (n:aU):Gj k (d,n,())=some ((bz d n,()),((),(),())):=by
 obtain⟨c,v,I,E,lo,hi,⟨⟩⟩:=n;have Q:=g.n0;have R:=g.n1;have n2:=g.n2;have u:=ak (n:=(d.1.length:Int)-1) (by omega) (by omega);have w1:=ak (n:=(d.2.1.length:Int)-1) (by omega) (by omega);have w:=ak (n:=(d.2.2.1.length:Int)-1) (by omega) (by omega);have x:¬((d.1.length:Int)<0):=by omega
 have y:¬((d.2.1.length:Int)<0):=by omega
 have z:¬((d.2.2.1.length:Int)<0):=by omega
 have A:((d.1.length:Int)>=0):=by omega
 have B:((d.2.1.length:Int)>=0):=by omega
 have C:((d.2.2.1.length:Int)>=0):=by omega
 have D:∀ {α:Type} (f:_->Option α),bd k (AF k (d,E,())) f=f ((bI d E,()),((),(),())):=λf=>by rw[AZ k t e d g E i,aa]
 have F:∀ {α:Type} (f:_->Option α),bd k (AF k (d,I,())) f=f ((bI d I,()),((),(),())):=λf=>by rw[AZ k t e d g I i,aa]
 unfold Gj bz;rcases gW c with rfl|rfl|rfl|rfl|rfl|rfl|rfl|rfl|rfl|rfl|rfl|rfl|rfl|rfl|h
 case inr.inr.inr.inr.inr.inr.inr.inr.inr.inr.inr.inr.inr.inr=>
  have G:¬c=1:=by omega
  have H:¬c=2:=by omega
  have J:¬c=3:=by omega
  have K:¬c=4:=by omega
  have L:¬c=5:=by omega
  have M:¬c=6:=by omega
  have N:¬c=7:=by omega
  have O:¬c=8:=by omega
  have P:¬c=9:=by omega
  have l:¬c=10:=by omega
  have m:¬c=11:=by omega
  have o:¬c=12:=by omega
  have p:¬c=13:=by omega
  have q:¬c=14:=by omega
  have r:¬(1<=c/\c<=14):=by omega
  simp only[Bc,aa,PS,a0n r,a0y,ai,G,H,J,K,L,M,N,O,P,l,m,o,p,q,a9i,↓reduceIte]
 all_goals (simp(config:= {failIfUnchanged:=false}) only[Bc,Il,bn,aa,bP,an,D,F,PS,u,w1,w,x,y,z,A,B,C,CW,↓reduceIte,Int.reduceEq,Int.reduceLT,Int.reduceGT,Int.reduceLE,Int.reduceGE,Int.reduceNe,Int.reduceNeg,a8e,a8f,a4r,a6t,a0d,ai,ah,Int.reduceBEq,Int.reduceBNe,a6x,ge_iff_le,and_self,a9h,a0t,a0y,a7p,a9n,a9o,a8c,a6j,Int.reduceSub])
 case inl=>
  by_cases b:0<=v/\v<=(d.1.length:Int)-1<;>cases hn:fK I<;>cases he:(bI d E==1)<;>cases a:(lo==0)<;>cases hhi:(hi==0)<;>simp[bne,u2,b,he,hn,a,hhi]
 case inr.inl=>
  by_cases b:0<=v/\v<=(d.2.1.length:Int)-1<;>cases hn:fK I<;>cases he:(bI d E==2)<;>cases a:(lo==0)<;>cases hhi:(hi==0)<;>simp[bne,u2,b,he,hn,a,hhi]
 case inr.inr.inl=>
  by_cases b:0<=v/\v<=(d.2.2.1.length:Int)-1<;>cases he:(bI d E==1)<;>cases hI:(bI d I==1)<;>cases a:(lo==0)<;>cases hhi:(hi==0)<;>simp[bne,u2,b,he,hI,a,hhi]
 case inr.inr.inr.inl=>
  rw[sj];by_cases b:0<=v/\v<=(d.1.length:Int)-1<;>cases hn:fK I<;>cases he:fK E<;>cases j:decide (-999999999999999999<=lo/\lo<=999999999999999999)<;>cases s:decide (lo<=hi/\hi<=999999999999999999)<;>simp[bne,u2,b,he,hn]
 case inr.inr.inr.inr.inr.inr.inr.inr.inr.inr.inr.inr.inl=>
  by_cases b:0<=v/\v<=(d.1.length:Int)-1
  ·cases hn:fK I
   ·simp[bne,u2,b,hn]
   cases he:fK E
   ·simp[bne,u2,b,hn,he]
   by_cases j: -999999999999999999<=lo/\lo<=999999999999999999
   ·by_cases s:lo<=hi/\hi<=999999999999999999
    ·rw[ak (n:=lo+3) (by omega) (by omega),sj,a0f j,a0f s]
     cases decide (hi<=lo+3)<;>simp[bne,u2,b]
    ·rw[sj,a0f j,a0n s]
     simp[bne,u2,b]
   ·rw[sj,a0n j]
    simp[bne,u2,b]
  ·simp[u2,b]
 case inr.inr.inr.inr.inr.inr.inr.inr.inr.inl=>
  by_cases a:1<=lo/\lo<=3<;>cases b:(v==0)<;>cases hn:fK I<;>cases he:(bI d E==2)<;>simp[bne,b,he,hn,a]
 all_goals (cases b:(v==0)<;>cases hn:fK I<;>cases he:(bI d E==2)<;>cases hE:fK E<;>cases a:(lo==0)<;>cases hhi:(hi==0)<;>simp[bne,b,he,hn,hE,a,hhi])
abbrev b7:=dM×dM×List kF×List aU×Unit
def aF (p:b7):aw:=(p.1,p.2.1,p.2.2.1,())
structure gF (p:b7):Prop where
 d:eL (aF p)
 n:p.2.2.2.1.length<=1048576
 i:∀n∈p.2.2.2.1,n.2.2.1.length<=1048576
 e:∀n∈p.2.2.2.1,n.2.2.2.1.length<=1048576
def gG (p:b7):Bool:=aY (aF p)&& (decide (p.2.2.2.1.length<=30)&& (p.2.2.2.1.all (bz (aF p))&& mc p.2.2.2.1))
def qf (k:Nat) (c:4194304<k) (e:k<=4611686018427387903) (p:b7) (j:gF p):Jm k (p,())=some ((gG p,()),((),())):=by
 unfold Jm gG;have q:yT k ((p.1,p.2.1,p.2.2.1,()),())=some ((aY (aF p),()),((),())):=lw k c (aF p) j.d;simp only[q,aa]
 cases hdo:aY (aF p)with
 |false=>simp
 |true=>
  simp only[a0t,ah,a2d,a0d,an];by_cases l:(p.2.2.2.1.length:Int)>30
  ·have:decide (p.2.2.2.1.length<=30)=false:=by simp;omega
   rw[a0b l,this];rfl
  ·have a:p.2.2.2.1.length<=30:=by omega
   rw[a0e l,a0f a,a2d];obtain⟨o,m,s,t⟩:=yh k c p.2.2.2.1 a;have h:=lV (b:=Jm.l0 k) (λi=>((p.1,p.2.1,p.2.2.1,p.2.2.2.1,()),(i:Int),())) p.2.2.2.1 (λn=> !bz (aF p) n) (rf:=some ((false,()),((),()))) (r:=some ((mc p.2.2.2.1,()),((),()))) (λG i hi=>by
    have g:((i:Int)<(p.2.2.2.1.length:Int)):=by omega
    have u:(0:Int)<=(i:Int):=by omega
    have v:Gj k ((p.1,p.2.1,p.2.2.1,()),p.2.2.2.1[i],())=some ((bz (aF p) p.2.2.2.1[i],()),((),(),())):=KG k c e (aF p) j.d hdo p.2.2.2.1[i];simp only[Jm.l0,an,a0b g,a0b u,a0j,a0a hi,aa,v];rw[aH]
    cases bz (aF p) p.2.2.2.1[i]<;>simp) (λG=>by
    have g:¬((p.2.2.2.1.length:Int)<(p.2.2.2.1.length:Int)):=by omega
    simp only[Jm.l0,an,a0e g,s,aa,t]) (f:=k)
   refine Eq.trans h ?_
   rw[pr]
   cases p.2.2.2.1.all (bz (aF p))<;>simp
def zV (k:Nat) (j:4194304<k) (e:k<=4611686018427387903) (d:aw) (m:eL d) (l:List aU) (s:l.length<=1048576) (hi:∀n∈l,n.2.2.1.length<=1048576) (p:∀n∈l,n.2.2.2.1.length<=1048576):Gt k (l,(d,()),())=some ((l.all (bz d),()),((),((),()),())):=by
 obtain⟨n,q,a⟩:=fD (b:=xn.l0 k) (λi=>(l,(((d,()),()),()),(l.length:Int),(i:Int),())) l (λt=> !bz d t) (o:=((),(((d,()),()),()),())) (λG i c=>by
  have a:((i:Int)<(l.length:Int)):=by omega
  have r:(0:Int)<=(i:Int):=by omega
  have h:=a0l c;simp only[xn.l0,Mr,KF k j e d m l[i] (hi _ h) (p _ h),an,a0b a,a0b r,a0j,a0a c,aa];rw[aH]
  cases bz d l[i]<;>simp) (λG=>by
  have a:¬((l.length:Int)<(l.length:Int)):=by omega
  simp only[xn.l0,an,a0e a]) (f:=k)
 unfold Gt Ms xn;have g:aP (xn.l0 k) k (l,(((d,()),()),()),(l.length:Int),0,())=some ((n,()),((),(((d,()),()),()),())):=q;simp only[g,aa,a,pr,a9a]
def qg (k:Nat) (f:4194304<k) (a:k<=4611686018427387903) (p:b7) (b:gF p):Eb k (p,())=some ((gG p,()),((),())):=by
 unfold Eb gG;have h:Lk k ((p.1,p.2.1,p.2.2.1,()),())=some ((aY (aF p),()),((),())):=zM k f a (aF p) b.d;have j:Gt k (p.2.2.2.1,((p.1,p.2.1,p.2.2.1,()),()),())=some ((p.2.2.2.1.all (bz (aF p)),()),((),((),()),())):=zV k f a (aF p) b.d p.2.2.2.1 b.n b.i b.e;simp only[h,aa]
 cases hdo:aY (aF p)with
 |false=>simp
 |true=>
  simp only[a0t,ah,a2d,an];by_cases g:(p.2.2.2.1.length:Int)>30
  ·have:decide (p.2.2.2.1.length<=30)=false:=by simp;omega
   rw[a0b g,this];rfl
  ·have c:p.2.2.2.1.length<=30:=by omega
   obtain⟨o,t⟩:=yi k f p.2.2.2.1 c;rw[a0e g,a0f c,a2d];simp only[j,t,aa]
   cases p.2.2.2.1.all (bz (aF p))<;>simp
end Go.Pev.F
namespace Go.Pev
def Kd.Small:(k:Kd)->k.T->Prop
 | .str,s=>s.length<=1048576
 | .sl _ e,l=>l.length<=1048576/\∀x∈l,e.Small x
 | .cons a b,x=>a.Small x.1/\b.Small x.2
 |_,_=>True
end Go.Pev
section
namespace Go.Pev.F
variable {b a:bA} {d:aw} {y x n leaf al op lo hi:Int} {e:bh} {k:Nat} {l:List aG} {t:bU} {V:List Int} {f:Int->Int->Int×Int} {g:Int->Int->Int}
def Bd:∀ {a b:List bD},a.length=b.length->oV a b=0->a=b
 |[],[],_,_=>rfl
 |x::a,y::b,h,e=>by
  simp only[oV]at e;rcases nc x y with⟨c,f1⟩|⟨c,f1⟩|⟨c,f1,f2⟩
  ·rw[ifNegQ]at e;omega
  ·rw[ifNegQ]at e;omega
  ·rw[a0b c]at e
   obtain⟨d,f,⟨⟩⟩:=x;obtain⟨g,i,⟨⟩⟩:=y;rw[Bd (by simpa using h) e];simp only at f1 f2;rw[f1,f2]
 |[],_::_,h,_=>by simp at h
 |_::_,[],h,_=>by simp at h
def KH {a b:List bD} (h:eD a b=0):a=b:=by
 unfold eD at h;by_cases c:a.length<b.length
 ·rw[a0b c]at h;omega
 ·by_cases d:a.length>b.length
  ·rw[a0e c,a0b d]at h;omega
  ·rw[a0e c,a0e d]at h
   exact Bd (by omega) h
def Ro (l:List aG) (t:List bD):Option aG:=l.find? λp=>eD p.1 t==0
def KI (x y:bD):nN y x= -nN x y:=by
 unfold nN
 repeat' split
 all_goals omega
def Be:∀(a b:List bD),oV b a= -oV a b
 |[],[]=>rfl
 |[],_::_=>rfl
 |_::_,[]=>rfl
 |x::a,y::b=>by
  simp only[oV,KI x y];by_cases h:nN x y=0
  ·rw[a0b h,ifPosQ,Be a b]
  ·rw[a0e h,ifNegQ]
def KJ (a b:List bD):eD b a= -eD a b:=by
 unfold eD;rw[Be a b]
 repeat' split
 all_goals omega
def Hf (k:Nat) (B:4194304<k) (l:List aG) (s:qW l) (E:l.Pairwise λp q=>eD p.1 q.1<0) (t:List bD):∀(n i j f:Nat),j-i<=n->n<f->i<=j->j<=l.length->(∀x (e:x<l.length),x<i->eD l[x].1 t<0)->(∀x (e:x<l.length),j<=x->eD l[x].1 t>=0)->∃(m:Nat) (b:Bool),aP (xB.l0 k) f (l,t,(()),(l.length:Int),(i:Int),(j:Int),())=some (((m:Int),b,()),((),(),(()),()))/\m<=l.length/\(∀x (e:x<l.length),x<m->eD l[x].1 t<0)/\(∀x (e:x<l.length),m<=x->eD l[x].1 t>=0)/\b=(if h:m<l.length then eD l[m].1 t==0 else false):=by
 have I:=s.n;have o:=a7t.1 E;intro n
 induction n with
 |zero=>
  intro i j f u F C r lo hi;obtain⟨f,rfl⟩:∃g,f=g+1:=⟨f-1,by omega⟩;obtain rfl:i=j:=by omega
  have v:¬((i:Int)<(i:Int)):=by omega
  have w:(0:Int)<=(i:Int):=by omega
  rw[az];simp only[xB.l0,GH,an,a0e v,a0b w,a0j];by_cases a:i<l.length
  ·have d:(i:Int)<(l.length:Int):=by omega
   have y:=qV k B l[i].1 t (s.t _ (a0l a));simp only[a0b d,a0a a,aa,y,a0d];exact⟨i,_,rfl,r,lo,hi,by rw[a8w a]⟩
  ·have d:¬(i:Int)<(l.length:Int):=by omega
   simp only[a0e d,a0d];exact⟨i,false,rfl,r,lo,hi,by rw[dif_neg a]⟩
 |succ n ih=>
  intro i j f u F C r lo hi;by_cases D:i<j
  ·obtain⟨f,rfl⟩:∃g,f=g+1:=⟨f-1,by omega⟩
   obtain⟨h,J⟩:∃h,h=(i+j)/2:=⟨_,rfl⟩;have a:h<l.length:=by omega
   have v:((i:Int)<(j:Int)):=by omega
   have c1:(0:Int)<=1:=by decide
   have w:(0:Int)<=(h:Int):=by omega
   have G:((2:Int)^(min (1:Int).toNat 64))=2:=by decide
   have H:wrap .i64 ((wrap .u64 (wrap .i64 ((i:Int)+(j:Int)))).fdiv (2^(min (1:Int).toNat 64)))=(h:Int):=by
    rw[G,ak (n:=(i:Int)+(j:Int)) (by omega) (by omega),gM,a7i _ (by decide),ak (by omega) (by omega)];omega
   have y:=qV k B l[h].1 t (s.t _ (a0l a));rw[az];simp only[xB.l0,GH,an,a0b v,a0b c1,H,a0b w,a0j,a0a a,aa,y];by_cases c:eD l[h].1 t<0
   ·rw[a0b c,aH]
    refine ih (h+1) j f (by omega) (by omega) (by omega) r (λx e z=> ?_) hi;by_cases A:x=h
    ·subst A;exact c
    ·exact vI (o x h e a (by omega))
   ·rw[a0e c]
    refine ih i h f (by omega) (by omega) (by omega) (by omega) lo (λx e z=> ?_);by_cases A:x=h
    ·subst A;omega
    ·by_cases K:eD l[x].1 t<0
     ·exact absurd (vI (o h x a e (by omega))) c
     ·omega
  ·exact ih i j f (by omega) (by omega) C r lo hi
def jA (w:Option (List Int)):List aG->aG->List aG
 |[],p=>[p]
 |q::l,p=>if eD q.1 p.1<0 then q::jA w l p else if eD q.1 p.1=0 then(q.1,yd w q.2.1 p.2.1,())::l else p::q::l
def qY (w:Option (List Int)) (a b:List aG):List aG:=b.foldl (jA w) a
abbrev KK (l:List aG):Prop:=l.Pairwise λp q=>eD p.1 q.1<0
def yj (w:Option (List Int)):∀(l:List aG) (p:aG),(jA w l p).length<=l.length+1
 |[],p=>by simp[jA]
 |q::l,p=>by
  have:=yj w l p;simp only[jA];split
  ·simp only[a0g];omega
  split
  ·simp only[a0g];omega
  ·simp
def Im {w:Option (List Int)} {p:aG}:∀(l:List aG) (m:Nat) (a:m<l.length),(∀x (c:x<l.length),x<m->eD l[x].1 p.1<0)->eD l[m].1 p.1=0->jA w l p=l.set m (l[m].1,yd w l[m].2.1 p.2.1,())
 |q::l,0,a,_,h0=>by
  have b:eD q.1 p.1=0:=h0;simp only[jA,a8n,List.set_cons_zero];rw[ifNegQ,a0b b]
 |q::l,m+1,a,hlo,h0=>by
  have d:eD q.1 p.1<0:=hlo 0 (by simp) (by omega);simp only[jA,a6n,List.set_cons_succ];rw[a0b d,Im l m (by simpa using a) (λx c e=>hlo (x+1) (by simpa using c) (by omega)) h0]
def yk {w:Option (List Int)} {p:aG}:∀(l:List aG) (m:Nat) (a:m<=l.length),(∀x (b:x<l.length),x<m->eD l[x].1 p.1<0)->(∀h:m<l.length,eD l[m].1 p.1>0)->jA w l p=l.take m++[p]++l.drop m
 |[],0,a,_,_=>by simp[jA]
 |q::l,0,a,_,h0=>by
  have c:eD q.1 p.1>0:=h0 (by simp);simp only[jA];rw[ifNegQ,ifNegQ];simp
 |q::l,m+1,a,hlo,h0=>by
  have d:eD q.1 p.1<0:=hlo 0 (by simp) (by omega);simp only[jA];rw[a0b d,yk l m (by simpa using a) (λx b e=>hlo (x+1) (by simpa using b) (by omega)) (λh=>h0 (by simpa using h))];simp
structure mf (d:aw) (p:aG):Prop where
 t:bq p.1=true
 m:uX d p.2.1
structure eW (d:aw) (l:List aG):Prop where
 p:∀x∈l,mf d x
 r:KK l
def yl {w:Option (List Int)} {p x:aG}:∀ {l:List aG},x∈jA w l p->x∈l\/x=p\/∃q∈l,q.1=p.1/\x=(q.1,yd w q.2.1 p.2.1,())
 |[],h=>by simp[jA]at h;exact Or.inr (Or.inl h)
 |q::l,h=>by
  simp only[jA]at h;split at h
  ·rcases a1e.1 h with h|h
   ·exact Or.inl (by simp[h])
   ·rcases yl h with h|h|⟨z,hz,h⟩
    ·exact Or.inl (by simp[h])
    ·exact Or.inr (Or.inl h)
    ·exact Or.inr (Or.inr ⟨z,by simp[hz],h⟩)
  split at h
  ·rename_i b a
   rcases a1e.1 h with h|h
   ·exact Or.inr (Or.inr ⟨q,by simp,KH a,h⟩)
   ·exact Or.inl (by simp[h])
  ·rcases a1e.1 h with h|h
   ·exact Or.inr (Or.inl h)
   ·exact Or.inl h
def Bf {w:Option (List Int)} {p:aG}:∀ {l:List aG},KK l->KK (jA w l p)
 |[],_=>by simp[jA,KK]
 |q::l,h=>by
  obtain⟨c,d⟩:=a4u.1 h;simp only[jA];split
  ·rename_i e
   refine a4u.2 ⟨λz a=> ?_,Bf d⟩;rcases yl a with h|h|⟨y,hy,_,h⟩
   ·exact c z h
   ·rw[h];exact e
   ·rw[h];exact c y hy
  split
  ·exact a4u.2 ⟨λz a=>c z a,d⟩
  ·rename_i e f
   have b:eD p.1 q.1<0:=by rw[KJ q.1 p.1];omega
   refine a4u.2 ⟨λz a=> ?_,h⟩;rcases a1e.1 a with h|h
   ·rw[h];exact b
   ·exact vI b (Int.le_of_lt (c z h))
def Bg {w:Option (List Int)} (c:RM w) {p:aG} (a:eW d l) (b:mf d p):eW d (jA w l p):=by
 refine⟨λx e=> ?_,Bf a.r⟩;rcases yl e with h|h|⟨q,hq,_,h⟩
 ·exact a.p x h
 ·rw[h];exact b
 ·rw[h];exact⟨(a.p q hq).t,KC c (a.p q hq).m b.m⟩
def Bh {d:aw} {w:Option (List Int)} (c:RM w):∀ {b a:List aG},eW d a->(∀x∈b,mf d x)->eW d (qY w a b)
 |[],a,ha,_=>ha
 |p::b,a,ha,hb=>Bh c (b:=b) (Bg c ha (hb p (by simp))) (λx e=>hb x (by simp[e]))
def EJ (w:Option (List Int)):∀(b a:List aG),(qY w a b).length<=a.length+b.length
 |[],a=>a1n _
 |p::b,a=>by
  have c:=EJ w b (jA w a p);have d:=yj w a p;simp only[qY,a2o,a0g]at c⊢;omega
def vJ {t:List bD} (h:bq t=true):t.length<=3:=by
 simp only[bq,a0c,a0q]at h;exact h.1
def EK (b:aY d=true) (h:eW d l) (c:l.length<=1048576):qW l:=⟨c,λp a=>by have:=vJ (h.p p a).t;omega,λp a=>by have:=ma b (h.p p a).m;omega,λp a e f=>(dY b ((h.p p a).m.e e f)).1⟩
def u5 (t:List bD) (h:t.length<=1000):zH k (t,())=some ((t,()),((),())):=by
 unfold zH;have a:(([]:List bD).length+t.length)*16<=af:=by simp only[a0h,af];omega
 cases t with
 |nil=>simp[af,nq]
 |cons x r=>simp only[List.isEmpty_cons,ah,a0f a,ai,a2j]
def ym (g:1000<k) (c:aY d=true) {p:aG} (a:mf d p):JY k (p,())=some ((p,()),((),())):=by
 have l1:=ma c a.m;have l2:=vJ a.t;simp only[JY,u5 p.1 (show p.1.length<=1000 by omega),aa];refine Eq.trans (ca (b:=JY.l0 k) (λi=>(([],[],()),(p.1,p.2.1.take i,()),p.2.1,(p.2.1.length:Int),(i:Int),())) p.2.1.length (r:=some ((p,()),((),()))) (λG i hi=> ?_) (λG=> ?_) (by omega)) rfl
 ·have f:=qS k p.2.1[i] (dY c (a.m.e _ (a0l hi))).1
  simp only[JY.l0];rw[a0f (show(i:Int)<(p.2.1.length:Int) by omega),a0f (show(0:Int)<=(i:Int) by omega)];simp only[ai,a0j,a0a hi,aa,f];rw[a0f (by simp only[a0g,a0h,a1m,af];omega),ai,aH (i:=i)];have:p.2.1.take i++[p.2.1[i]]=p.2.1.take (i+1):=a2v hi;rw[<-this]
 ·simp only[JY.l0]
  rw[a0n (show¬(p.2.1.length:Int)<(p.2.1.length:Int) by omega),ah,a2a]
def EL (f:1048576<k) (a:aY d=true) (c:∀p∈l,mf d p) (g:l.length<=100000):xA k (l,())=some ((l,()),((),())):=by
 simp only[xA];refine Eq.trans (ca (b:=xA.l0 k) (λi=>(l.take i,l,(l.length:Int),(i:Int),())) l.length (r:=some ((l,()),((),()))) (λG i hi=> ?_) (λG=> ?_) (by omega)) rfl
 ·have e:=ym (k:=k) (by omega) a (c _ (a0l hi))
  simp only[xA.l0];rw[a0f (show(i:Int)<(l.length:Int) by omega),a0f (show(0:Int)<=(i:Int) by omega)];simp only[ai,a0j,a0a hi,aa,e];rw[a0f (by simp only[a0g,a0h,a1m,af];omega),ai,aH (i:=i)];have:l.take i++[l[i]]=l.take (i+1):=a2v hi;rw[<-this]
 ·simp only[xA.l0]
  rw[a0n (show¬(l.length:Int)<(l.length:Int) by omega),ah,a2a]
def Ni (e:4194304<k) (c:qW l) (f:KK l) (t:List bD):∃(m:Nat),El k (l,t,())=some (((m:Int),(if h:m<l.length then eD l[m].1 t==0 else false),()),((),(),()))/\m<=l.length/\(∀x (d:x<l.length),x<m->eD l[x].1 t<0)/\(∀x (d:x<l.length),m<=x->eD l[x].1 t>=0):=by
 obtain⟨m,b,g,i,j,o,p⟩:=Hf k e l c f t l.length 0 l.length k (by omega) (by have:=c.n;omega) (by omega) (a1n _) (λx _ h=>by omega) (λx d h=>by omega);refine⟨m,?_,i,j,o⟩;unfold El xB;have a:aP (xB.l0 k) k (l,t,(()),(l.length:Int),0,(l.length:Int),())=some (((m:Int),b,()),((),(),(()),())):=g;simp only[a,aa,p]
def Qu (i:4194304<k) (j:aY d=true) (w:Option (List Int)) (g:eW d l) (o:l.length<=100000) (p:aG):∃m:Nat,(∃h:m<l.length,El k (l,p.1,())=some (((m:Int),true,()),((),(),()))/\jA w l p=l.set m (l[m].1,yd w l[m].2.1 p.2.1,()))\/(m<=l.length/\El k (l,p.1,())=some (((m:Int),false,()),((),(),()))/\jA w l p=l.take m++[p]++l.drop m):=by
 obtain⟨m,a,c,e,n⟩:=Ni i (EK j g (by omega)) g.r p.1;refine⟨m,?_⟩;by_cases b:m<l.length
 ·rw[a8w b]at a
  by_cases f:eD l[m].1 p.1=0
  ·left
   rw[f]at a;exact⟨b,a,Im l m b e f⟩
  ·right
   have:(eD l[m].1 p.1==0)=false:=by simpa using f
   rw[this]at a;exact⟨c,a,yk l m c e (λh=>by have:=n m b (a1n _);omega)⟩
 ·right
  rw[dif_neg b]at a;exact⟨c,a,yk l m c e (λh=>absurd h b)⟩
def Nj (w:Option (List Int)) (a b:List aG) {i:Nat} (hi:i<b.length):qY w a (b.take (i+1))=jA w (qY w a (b.take i)) b[i]:=by
 unfold qY;rw[a2n hi,a4a];rfl
def KL (k:Nat) (l:List aG) {m:Nat} (a:m<=l.length) (p:aG) (b:l.length<=100000):Lb.slices_Insert_impl_Part_impl_Part k (l,(m:Int),[p],())=some ((l.take m++[p]++l.drop m,()),((),(),(),())):=by
 show it _ _ _=_;unfold it;rw[a0b ⟨by show(0:Int)<=(m:Int);omega,by show(m:Int)<=(l.length:Int);omega,by show 0<([p]:List aG).length;simp,by show(l.length+([p]:List aG).length)*48<=140737488355328;simp only[a0g,a0h];omega⟩];rfl
def zW (u:4194304<k) (f:aY d=true) {a b:List aG} (q:eW d a) (s:∀x∈b,mf d x) (y:a.length+b.length<=100000):oM k (a,b,(),())=some ((qY none a b,()),((),(),(),())):=by
 simp only[oM,EL (show 1048576<k by omega) f q.p (show a.length<=100000 by omega),aa];refine Eq.trans (ca (b:=oM.l0 k) (λi=>((),qY none a (b.take i),b,(b.length:Int),(i:Int),())) b.length (r:=some ((qY none a b,()),((),(),(),()))) (λG i hi=> ?_) (λG=> ?_) (by omega)) rfl
 ·have t:=Bh (d:=d) (w:=none) (λst h=>by cases h) (b:=b.take i) q (λx v=>s x (a4g v))
  have c:=EJ none (b.take i) a;rw[a1m]at c;have e:=s _ (a0l hi);have j:=ym (k:=k) (by omega) f e;rw[Nj none a b hi];simp only[oM.l0];rw[a0f (show(i:Int)<(b.length:Int) by omega),a0f (show(0:Int)<=(i:Int) by omega)];simp only[ai,a0j,a0a hi,aa];rw[aH (i:=i)];obtain⟨m,⟨g,l,n⟩|⟨g,l,n⟩⟩:=Qu u f none t (by omega) b[i]
  ·have o:=ED (k:=k) (by omega) f (t.p _ (a0l g)).m e.m
   rw[n];simp only[l,aa,ai,a0j,a0a g,o];rw[a0f (show 0<=(m:Int)/\(m:Int)<((qY none a (b.take i)).length:Int) by omega)];simp only[ai]
  ·rw[n]
   simp only[l,aa,ah,j,KL k _ g b[i] (by omega)]
 ·simp only[oM.l0]
  rw[a0n (show¬(b.length:Int)<(b.length:Int) by omega),ah,a2a]
def O8 (b:List aG) (p:aG):Bool:=match Ro b p.1 with
 |some q=>Qt p.2.1 q.2.1
 |none=>false
def RW (a b:List aG):Bool:=a.all (O8 b)
def dO (d:aw) (l:List bU):Ex:=open Classical in if h:bI d l≠0 then Classical.choose (A2 h)else .leaf (0,0,())
def dx {l:List bU} (h:bI d l≠0):(dO d l).Ok d/\l=(dO d l).flat/\bI d l=(dO d l).kind/\(dO d l).size<=40:=by
 unfold dO;rw[a8w h];exact Classical.choose_spec (A2 h)
def qZ (t:List bD) (a b:Int):List bD:=cond (bq t&& bq [(a,b,())]) (if t.length<3 then t++[(a,b,())]else t) []
def kM (t:List bD) (a:Int):Int:=t.foldl (λn x=>n+iP (x.1==a)) 0
def nf (t:List bD) (a b:Int):bq (qZ t a b)=true:=by
 unfold qZ
 cases h:(bq t&& bq [(a,b,())])
 ·rfl
 ·simp only[a0c]at h
  simp only[a1r];split
  ·simp only[bq,a0c,a0q,a5r,a0m,a0g,a0h]at h⊢
   exact⟨by omega,h.1.2,h.2.2⟩
  ·exact h.1
def oZ (d:4194304<k) (t:List bD) (a b:Int):Ee k (t,a,b,())=some ((qZ t a b,()),((),(),(),())):=by
 simp only[Ee,kK k d,aa,qZ]
 cases h1:bq t
 ·simp
 ·have e:=vJ h1
  cases h2:bq [(a,b,())]
  ·simp
  ·simp only[a0t,ah,u5 t (show t.length<=1000 by omega),aa,a6l,a1r]
   by_cases c:t.length<3
   ·rw[a0b c,a0f (show(t.length:Int)<3 by omega),ai,a0f (by simp only[a0g,a0h,af];omega),ai]
   ·rw[a0e c,a0n (show¬(t.length:Int)<3 by omega),ah]
def EM (a:Int):∀(t:List bD) (n:Int),n<=t.foldl (λn x=>n+iP (x.1==a)) n/\t.foldl (λn x=>n+iP (x.1==a)) n<=n+t.length
 |[],n=>by simp
 |x::t,n=>by
  have:=EM a t (n+iP (x.1==a));have b:0<=iP (x.1==a)/\iP (x.1==a)<=1:=by unfold iP;cases (x.1==a)<;>simp
  simp only[a2o,a0g];omega
def zX (d:1000<k) {t:List bD} (e:t.length<=3) (a:Int):Ef k (t,a,())=some ((kM t a,()),((),(),())):=by
 simp only[Ef];refine Eq.trans (ca (b:=Ef.l0 k) (λi=>(a,kM (t.take i) a,t,(t.length:Int),(i:Int),())) t.length (r:=some ((kM t a,()),((),(),()))) (λG i hi=> ?_) (λG=> ?_) (by omega)) rfl
 ·have c:=EM a (t.take i) 0
  rw[a1m]at c;have f:0<=iP (t[i].1==a)/\iP (t[i].1==a)<=1:=by unfold iP;cases (t[i].1==a)<;>simp
  simp only[Ef.l0];rw[a0f (show(i:Int)<(t.length:Int) by omega),a0f (show(0:Int)<=(i:Int) by omega)];simp only[ai,a0j,a0a hi,aa,i7];rw[aH (i:=i),show kM (t.take (i+1)) a=kM (t.take i) a+iP (t[i].1==a) by unfold kM;rw[kG _ _ _ hi],ak (by unfold kM;omega) (by unfold kM;omega)]
 ·simp only[Ef.l0]
  rw[a0n (show¬(t.length:Int)<(t.length:Int) by omega),ah,a2a]
def dh (d:aw) (leaf:Int) (e:bh):List bh:=(List.replicate (2^d.2.1.length) bC).set leaf.toNat e
def zY (d:aw) (l:List aG) (t:List bD) (leaf:Int) (e:bh):List aG:=cond e.1 (jA none l (t,dh d leaf e,())) l
abbrev mg:=Bool×List bD×Int×bh
def da (d:aw) (s:List aG×List aG) (a:mg):List aG×List aG:=cond a.1 (zY d s.1 a.2.1 a.2.2.1 a.2.2.2,s.2) (s.1,zY d s.2 a.2.1 a.2.2.1 a.2.2.2)
def d5 (d:aw) (leaf:Int):Prop:=0<=leaf/\leaf<2^d.2.1.length
structure yn (d:aw) (a:mg):Prop where
 t:bq a.2.1=true
 l:d5 d a.2.2.1
 e:bi d a.2.2.2
def ll (a:bi d e):uX d (dh d leaf e):=by
 refine⟨by simp[dh],λx b=> ?_⟩;rcases a1v b with h|h
 ·rw[a6e h];exact dR d
 ·rw[h];exact a
def tH (a:eW d l) {t:List bD} (b:bq t=true) (leaf:Int) (c:bi d e):eW d (zY d l t leaf e):=by
 unfold zY
 cases e.1
 ·exact a
 ·exact Bg (λst h=>by cases h) a ⟨b,ll c⟩
def yp (d:aw) (l:List aG) (t:List bD) (leaf:Int) (e:bh):(zY d l t leaf e).length<=l.length+1:=by
 unfold zY
 cases e.1
 ·exact Nat.le_succ _
 ·exact yj _ _ _
structure lm (d:aw) (s:List aG×List aG):Prop where
 a:eW d s.1
 b:eW d s.2
def KM {s:List aG×List aG} (c:lm d s) {a:mg} (f:yn d a):lm d (da d s a):=by
 unfold da
 cases a.1
 ·exact⟨c.a,tH c.b f.t _ f.e⟩
 ·exact⟨tH c.a f.t _ f.e,c.b⟩
def Nk (d:aw) (s:List aG×List aG) (a:mg):(da d s a).1.length+(da d s a).2.length<=s.1.length+s.2.length+1:=by
 unfold da
 cases a.1
 ·have:=yp d s.2 a.2.1 a.2.2.1 a.2.2.2;simp only[a2p];omega
 ·have:=yp d s.1 a.2.1 a.2.2.1 a.2.2.2;simp only[a1r];omega
def pF {d:aw}:∀ {l:List mg} {s:List aG×List aG},lm d s->(∀a∈l,yn d a)->lm d (l.foldl (da d) s)
 |[],s,hs,_=>hs
 |a::l,s,hs,ha=>pF (l:=l) (KM hs (ha a (by simp))) (λx b=>ha x (by simp[b]))
def o4 (d:aw):∀(l:List mg) (s:List aG×List aG),(l.foldl (da d) s).1.length+(l.foldl (da d) s).2.length<=s.1.length+s.2.length+l.length
 |[],s=>a1n _
 |a::l,s=>by
  have b:=o4 d l (da d s a);have c:=Nk d s a;simp only[a2o,a0g];omega
def Hg (d:aw) (e:bh) (v:Int) (b a:bA):bh:=match d.2.2.1[v.toNat]? with
 |some x=>cond (fR x b) (e.1,e.2.1,e.2.2.1.set v.toNat (if x.2.1=1 then a else jH (e.2.2.1.getD v.toNat fS) a),()) bC
 |none=>bC
def yq (d:aw) (v:Int) (a:bA):Int:=match d.2.2.1[v.toNat]? with
 |some x=>iB x a
 |none=>0
def Rp (v:Int):Int:=wrap .i64 (1*2^(min v.toNat 64))
def q5 (leaf v:Int):Int:=wrap .i64 (((BitVec.ofInt 64 leaf|||BitVec.ofInt 64 (Rp v)).toNat:Int))
def sk (leaf v:Int):Int:=wrap .i64 (((BitVec.ofInt 64 leaf&&& ~~~BitVec.ofInt 64 (Rp v)).toNat:Int))
def jb (n:aU) (e:bh):CK:=dG (e.2.1.getD n.2.1.toNat fS) (-9223372036854775808,n.2.2.2.2.1-1,())
def jc (n:aU) (e:bh):CK:=dG (e.2.1.getD n.2.1.toNat fS) (n.2.2.2.2.2.1+1,9223372036854775807,())
def Bi (n:aU) (e:bh):bh:=fh (cond (jb n e).2.1 (bS e n.2.1 (jb n e).1) bC) (cond (jc n e).2.1 (bS e n.2.1 (jc n e).1) bC)
def f9 (n:aU) (a:Int) (t:List bD) (leaf:Int) (e:bh) (i:Nat):mg:=(false,qZ t a (i:Int),leaf,cond (iO (e.2.1.getD n.2.1.toNat fS) (n.2.2.2.2.1+(i:Int))) (bS e n.2.1 (n.2.2.2.2.1+(i:Int),n.2.2.2.2.1+(i:Int),())) bC)
def kc (n:aU) (a:Int) (t:List bD) (leaf:Int) (e:bh):List mg:=(List.range (n.2.2.2.2.2.1-n.2.2.2.2.1+1).toNat).map (f9 n a t leaf e)++[(false,qZ t a (n.2.2.2.2.2.1-n.2.2.2.2.1+1),leaf,Bi n e)]
def lD (n:aU) (a:Int) (t:List bD):List bD:=if n.1=6 then qZ t a 1 else if n.1=10/\kM t a<n.2.2.2.2.1 then qZ t a 1 else t
def qh (n:aU) (a:Int) (t:List bD):List bD:=if n.1=6 then qZ t a 0 else t
def de (d:aw) (n:aU) (a:Int) (t:List bD) (leaf:Int) (e:bh):List mg:=
 if n.1=1 then [(false,t,leaf,cond (aC (aB d e leaf (dO d n.2.2.2.1))) (bS e n.2.1 (bR (aB d e leaf (dO d n.2.2.2.1)))) bC)]
 else if n.1=2 then [(false,t,q5 leaf n.2.1,dZ d leaf (dO d n.2.2.2.1) true e),(false,t,sk leaf n.2.1,dZ d leaf (dO d n.2.2.2.1) false e)]
 else if n.1=3 then [(false,t,leaf,cond (aC (aB d e leaf (dO d n.2.2.1))&& aC (aB d e leaf (dO d n.2.2.2.1))) (Hg d e n.2.1 (bR (aB d e leaf (dO d n.2.2.1))) (bR (aB d e leaf (dO d n.2.2.2.1)))) bC)]
 else if n.1=4 then [(false,t,leaf,bS e n.2.1 (n.2.2.2.2.1,n.2.2.2.2.2.1,()))]
 else if n.1=13 then kc n a t leaf e
 else if n.1=14 then [(false,[],leaf,e)]
 else if n.1=11\/n.1=12 then [(false,t,leaf,dZ d leaf (dO d n.2.2.2.1) true e)]
 else if n.1=7\/n.1=8 then [(false,t,leaf,e)]
 else [(true,lD n a t,leaf,dZ d leaf (dO d n.2.2.2.1) true e),(false,qh n a t,leaf,dZ d leaf (dO d n.2.2.2.1) false e)]
def cQ (d:aw) (n:aU) (leaf:Int) (e:bh):Int:=
 if n.1=4\/n.1=13\/n.1=14\/n.1=7\/n.1=8 then 0
 else if n.1=3 then cond (aC (aB d e leaf (dO d n.2.2.1)))
  (cond (aC (aB d e leaf (dO d n.2.2.2.1))) (en (en (ce (aB d e leaf (dO d n.2.2.1))) (ce (aB d e leaf (dO d n.2.2.2.1)))) (yq d n.2.1 (bR (aB d e leaf (dO d n.2.2.1))))) (en (ce (aB d e leaf (dO d n.2.2.1))) (ce (aB d e leaf (dO d n.2.2.2.1)))))
  (ce (aB d e leaf (dO d n.2.2.1)))
 else if n.1=11 then cond (aC (aB d e leaf (dO d n.2.2.2.1))&& iO (bR (aB d e leaf (dO d n.2.2.2.1))) 0) (en (ce (aB d e leaf (dO d n.2.2.2.1))) 8) (ce (aB d e leaf (dO d n.2.2.2.1)))
 else ce (aB d e leaf (dO d n.2.2.2.1))
def Hh:∀f:Nat,f<=3->∀v:Nat,v<f->∀l:Nat,l<2^f->(0<=q5 l v/\q5 l v<2^f)/\(0<=sk l v/\sk l v<2^f):=by
 intro f a;have:f=0\/f=1\/f=2\/f=3:=by omega
 rcases this with rfl|rfl|rfl|rfl
 ·intro v b;omega
 ·decide
 ·decide
 ·decide
def Bj (c:aY d=true) {v:Int} (i:0<=v/\v<(d.2.1.length:Int)) (e:d5 d leaf):d5 d (q5 leaf v)/\d5 d (sk leaf v):=by
 have f:=(ja c).2.1;obtain⟨j,g⟩:=e;have b:((leaf.toNat:Nat):Int)=leaf:=by omega
 have h:((v.toNat:Nat):Int)=v:=by omega
 have a:leaf.toNat<2^d.2.1.length:=by
  have:((leaf.toNat:Nat):Int)<((2^d.2.1.length:Nat):Int):=by rw[b];simpa using g
  omega
 have:=Hh d.2.1.length f v.toNat (by omega) leaf.toNat a;rw[b,h]at this;exact this
def KN (o:bi d e) (i:e.1=true) {v:Int} {b:bA} (j:bw a) (k:bj a=true):bi d (Hg d e v b a):=by
 obtain⟨c,hi,l⟩:=bK o i;unfold Hg;split
 ·rename_i x p
  cases fR x b
  ·exact dR d
  ·obtain⟨q,_⟩:=a0p.1 p
   have f:v.toNat<e.2.2.1.length:=by rw[c.arrs];exact q
   have m:e.2.2.1.getD v.toNat fS∈e.2.2.1:=by rw[ay f];exact a0l f
   have n:bw (if x.2.1=1 then a else jH (e.2.2.1.getD v.toNat fS) a)/\bj (if x.2.1=1 then a else jH (e.2.2.1.getD v.toNat fS) a)=true:=by
    split
    ·exact⟨j,k⟩
    ·exact⟨tt (c.fa _ m) j,CR (l _ m) k⟩
   refine Or.inl ⟨i,⟨c.ints,by simp only[a1r,a3j];exact c.arrs,c.fi,λy g=> ?_⟩,hi,λy g=> ?_⟩
   ·rcases a1v g with h|h
    ·exact c.fa y h
    ·rw[h];exact n.1
   ·rcases a1v g with h|h
    ·exact l y h
    ·rw[h];exact n.2
 ·exact dR d
def KO (v:gN):Prop:=aC v=true->bj (bR v)=true
def tI:KO oO:=λh=>by cases h
def O9 {l a:List Int} (h:l≠[]) (c:a≠[]) (b:∃x∈l,∃y∈a,x<=y):pR l<=qM a:=by
 obtain⟨x,b,y,d,e⟩:=b;have f:=(fF h).2 x b;have g:=(fG c).2 y d;omega
def KP {l:List Int} (c:∀x∈l,ar x) (a b:Bool) (al:Int):KO (rU l a b al):=by
 unfold KO rU
 cases hc:((l++cond a [-9223372036854775808] []).isEmpty||(l++cond b [9223372036854775807] []).isEmpty)
 ·intro _
  simp only[Bool.or_eq_false_iff,List.isEmpty_eq_false_iff]at hc;refine a0f (O9 hc.1 hc.2 ?_)
  cases l with
  |nil=>
   cases a
   ·exact absurd rfl hc.1
   ·cases b
    ·exact absurd rfl hc.2
    ·exact⟨-9223372036854775808,by simp,9223372036854775807,by simp,by omega⟩
  |cons x r=>exact⟨x,by simp,x,by simp,a1d _⟩
 ·intro h;cases h
def yr {cs:List (Int×Int)} (a:∀p∈cs,ar p.1) (al:Int):KO (mT cs al):=by
 rw[tq];exact KP (λx b=>a _ (xO.1 b)) _ _ _
def sm (c:∀x y,ar x->ar y->ar (f x y).1) (d:bw a) (e:bw b):KO (lA f a b):=by
 unfold lA
 cases co a b
 ·exact tI
 ·exact yr (pw c d e) 0
def KQ (d:bw a) (e:bw b):KO (qc a b):=by
 unfold qc
 cases co a b
 ·exact tI
 ·refine yr (λp c=> ?_) _
  obtain⟨x,f,c⟩:=a3q.1 c;exact pw AV d (qN e x f) p c
def CX (e:bw b) (a:(ci b).isEmpty=false) (f:bj b=true):lX b=max (cK b.1) (cK b.2.1)-1/\0<=lX b/\lX b<=9223372036854775807:=by
 obtain⟨⟨j,k⟩,l,m⟩:=e;have g:b.1<=b.2.1:=a0z f;have h:b.1<0\/b.2.1>0:=by
  unfold ci at a;by_cases c:b.1<0
  ·exact Or.inl c
  ·by_cases d:b.2.1>0
   ·exact Or.inr d
   ·rw[a0e c,a0e d]at a;simp at a
 have i:(if cK b.2.1>cK b.1 then cK b.2.1 else cK b.1)=max (cK b.1) (cK b.2.1):=by split<;>omega
 have c:1<=max (cK b.1) (cK b.2.1)/\max (cK b.1) (cK b.2.1)<=9223372036854775808:=by
  unfold cK;split<;>split<;>omega
 unfold lX;rw[i,gM,ak (by omega) (by omega)];omega
def KR (f:bw a) (e:bw b):KO (jx a b):=by
 unfold jx
 cases ho:co a b
 ·exact tI
 ·simp only[co,a0c]at ho
  cases hp:(ci b).isEmpty
  ·cases (a.1==a.2.1&& b.1==b.2.1)
   ·intro _
    obtain⟨g,i,j⟩:=CX e hp ho.2;have w:wrap .i64 (0-lX b)= -lX b:=by rw[ak (by omega) (by omega)];omega
    rw[w];refine a0f ?_
    simp only[bR,a1r,a2p];by_cases d:a.1<0
    ·rw[a0f d,a1r]
     by_cases c:a.2.1>0
     ·rw[a0f c,a1r];split<;>split<;>omega
     ·rw[a0n c,a2p];split<;>omega
    ·rw[a0n d,a2p]
     by_cases c:a.2.1>0
     ·rw[a0f c,a1r];split<;>omega
     ·rw[a0n c,a2p];omega
   ·intro _
    exact a0f (a1d _)
  ·intro h;cases h
def Pa (op:Int) (a b:bA):bj (vm op a b)=true:=by
 unfold vm
 cases hc:(decide (13<=op/\op<=18)&& co a b)
 ·rfl
 ·simp only[a0c,a0q]at hc
  cases h1:dv (31-op) a b
  ·have:=Ib hc.1.1 hc.1.2 hc.2 h1
   rw[this];rfl
  ·cases dv op a b<;>rfl
def Nl (op:Int) (c:bw a) (d:bw b) (e:bj a=true) (f:bj b=true):KO (rY op a b):=by
 have g:a.1<=a.2.1:=a0z e;have ob':b.1<=b.2.1:=a0z f;unfold rY;split
 ·exact sm AT c d
 split
 ·exact sm py c d
 split
 ·exact sm AU c d
 split
 ·exact KQ c d
 split
 ·exact KR c d
 split
 ·intro _;refine a0f ?_;simp only[bR,fQ];split<;>split<;>omega
 split
 ·intro _;refine a0f ?_;simp only[bR,fQ];split<;>split<;>omega
 ·intro _;exact Pa op a b
def jN (a:bA):Prop:=0<=a.1/\a.2.1<=1
def EN (leaf n:Int):0<=tu leaf n/\tu leaf n<=1:=by
 unfold tu;have h:∀x:BitVec 64,(x&&& BitVec.ofInt 64 1).toNat<=1:=by
  intro x;have:(BitVec.ofInt 64 1)=1#64:=rfl;rw[this,BitVec.toNat_and];exact Nat.and_le_right
 have:=h (BitVec.ofInt 64 (leaf.fdiv (2^(min n.toNat 64))));rw[ak (by omega) (by omega)];omega
structure yt (d:aw) (e:bh):Prop where
 ok:Kn d e
 i:∀x∈e.2.1,bj x=true
 a:∀x∈e.2.2.1,bj x=true
def ng (h:bi d e) (a:e.1=true):yt d e:=by
 obtain⟨b,c,f⟩:=bK h a;exact⟨b,c,f⟩
def KS (b:yt d e) (leaf:Int) (g:ck d t=true):bj (fJ e leaf t)=true/\(bQ t.1=2->nT t.1=0->jN (fJ e leaf t)):=by
 unfold fJ;split
 ·rename_i j
  exact⟨a0f (a1d _),λa=>by rw[j]at a;simp[bQ]at a⟩
 split
 ·rename_i c
  obtain⟨l,k⟩:=mV g c;have f:t.2.1.toNat<e.2.1.length:=by rw[b.ok.ints];exact k
  rw[ay f];exact⟨b.i _ (a0l f),λa=>by rw[c]at a;simp[bQ]at a⟩
 split
 ·exact⟨a0f (a1d _),λ_ _=>⟨(EN _ _).1,(EN _ _).2⟩⟩
 ·refine⟨a0f (a1d _),λ_ _=> ?_⟩
  have:=jm (t.1==4);rcases this with h|h<;>(unfold jN;simp only;omega)
def yu {v:gN} (h:KO v):KO (dw al v):=by
 intro a;have:aC v=true:=by
  cases hc:aC v
  ·rw[qR hc]at a;cases a
  ·rfl
 rw[mW this];exact h this
def Bk {v:gN} (a:aC (dw al v)=true):aC v=true/\bR (dw al v)=bR v:=by
 have:aC v=true:=by
  cases hc:aC v
  ·rw[qR hc]at a;cases a
  ·rfl
 exact⟨this,by rw[mW this];rfl⟩
def Pb (f:yt d e) (k:ck d t=true) (l:nT t.1=1) (m:bw a) (n:bj a=true) (b:t.1=19->jN a):KO (Ig d e t a)/\(t.1=19->jN (bR (Ig d e t a))):=by
 have o:a.1<=a.2.1:=a0z n;unfold Ig;split
 ·rename_i g
  obtain⟨q,i⟩:=qQ k g;have j:t.2.1.toNat<e.2.2.1.length:=by rw[f.ok.arrs];exact i
  rw[a0a i];simp only;refine⟨?_,λh=>by omega⟩
  cases fR d.2.2.1[t.2.1.toNat] a
  ·intro h;cases h
  ·intro _
   rw[ay j];exact f.a _ (a0l j)
 split
 ·exact⟨sm py db m,λh=>by omega⟩
 ·rename_i g r
  have c:t.1=19:=by rcases Rg l with h|h|h<;>omega
  obtain⟨s,u⟩:=b c;have w1:wrap .i64 (1-a.2.1)=1-a.2.1:=ak (by omega) (by omega);have p:wrap .i64 (1-a.1)=1-a.1:=ak (by omega) (by omega);rw[w1,p];refine⟨λ_=>a0f ?_,λ_=> ?_⟩
  ·simp only[bR,fQ];omega
  ·unfold jN;simp only[bR,fQ];omega
def KT (op:Int) (a b:bA):jN (vm op a b):=by
 unfold vm
 cases (decide (13<=op/\op<=18)&& co a b)
 ·unfold jN;simp
 ·cases dv (31-op) a b<;>cases dv op a b<;>(unfold jN;simp)
def KU (c:jN a) (d:jN b):jN (bR (fQ (if b.1<a.1 then b.1 else a.1,if b.2.1<a.2.1 then b.2.1 else a.2.1,()))):=by
 obtain⟨a1,e⟩:=c;obtain⟨f,g⟩:=d;refine⟨?_,?_⟩
 ·simp only[bR,fQ]
  split<;>omega
 ·simp only[bR,fQ]
  split<;>omega
def Nm (c:jN a) (d:jN b):jN (bR (fQ (if b.1>a.1 then b.1 else a.1,if b.2.1>a.2.1 then b.2.1 else a.2.1,()))):=by
 obtain⟨a1,e⟩:=c;obtain⟨f,g⟩:=d;refine⟨?_,?_⟩
 ·simp only[bR,fQ]
  split<;>omega
 ·simp only[bR,fQ]
  split<;>omega
def gc {d:aw} {e:bh} (f:yt d e) (leaf:Int):∀ {x:Ex},x.Ok d->KO (aB d e leaf x)/\(x.kind=2->aC (aB d e leaf x)=true->jN (bR (aB d e leaf x)))
 | .leaf t,hx=>by
  obtain⟨r,s⟩:=KS f leaf hx.2;exact⟨λ_=>r,λk _=>s k hx.1⟩
 | .one t a,hx=>by
  have ih:=gc f leaf hx.2.2.2;by_cases c:aC (aB d e leaf a)=true
  ·have q:=Pb f hx.2.1 hx.1 (cO f.ok leaf hx.2.2.2).1 (ih.1 c) (λo=>ih.2 (by rw[hx.2.2.1,o];rfl) c)
   rw[l7 c];refine⟨yu q.1,λk g=> ?_⟩;rw[(Bk g).2];exact q.2 (A6 hx k).1
  ·rw[pC (by simpa using c)]
   exact⟨λh=>(by cases h),λ_ h=>(by cases h)⟩
 | .two t a b,hx=>by
  have i:=gc f leaf hx.2.2.2.2.1;have j:=gc f leaf hx.2.2.2.2.2;have u:bw (bR (aB d e leaf a)):=(cO f.ok leaf hx.2.2.2.2.1).1;have v:bw (bR (aB d e leaf b)):=(cO f.ok leaf hx.2.2.2.2.2).1;by_cases c:aC (aB d e leaf a)=true
  ·by_cases l:aC (aB d e leaf b)=true
   ·rw[ka c l]
    refine⟨yu (Nl t.1 u v (i.1 c) (j.1 l)),λk g=> ?_⟩;rw[(Bk g).2];unfold rY;rcases A7 hx k with⟨w,y⟩|⟨p|h21,m,n⟩
    ·rw[ifNegQ,ifNegQ,ifNegQ,ifNegQ,ifNegQ,ifNegQ,ifNegQ]
     exact KT _ _ _
    ·rw[ifNegQ,ifNegQ,ifNegQ,ifNegQ,ifNegQ,a0b p]
     exact KU (i.2 m c) (j.2 n l)
    ·rw[ifNegQ,ifNegQ,ifNegQ,ifNegQ,ifNegQ,ifNegQ,a0b h21]
     exact Nm (i.2 m c) (j.2 n l)
   ·rw[l9 c (by simpa using l)]
    exact⟨λh=>(by cases h),λ_ h=>(by cases h)⟩
  ·rw[pD (by simpa using c)]
   exact⟨λh=>(by cases h),λ_ h=>(by cases h)⟩
def cj (a b:Int):Prop:=vn a|||vn b=vn b
def cj.refl (a:Int):cj a a:=a9f
def cj.trans {a b c:Int} (h:cj a b) (d:cj b c):cj a c:=by
 unfold cj at*;rw[<-d,<-a7g,h]
def cj.zero (a:Int):cj 0 a:=by
 unfold cj;have e:vn 0=0#64:=rfl;rw[e,BitVec.zero_or]
def cj.left (a b:Int):cj a (en a b):=by
 unfold cj;rw[Ih,<-a7g,a9f]
def cj.right (a b:Int):cj b (en a b):=by
 rw[xV];exact cj.left b a
def cj.join {a b c:Int} (h:cj a c) (d:cj b c):cj (en a b) c:=by
 unfold cj at*;rw[Ih,a7g,d,h]
def cj.both {a b c d:Int} (h:cj a c) (e:cj b d):cj (en a b) (en c d):=cj.join (h.trans (cj.left _ _)) (e.trans (cj.right _ _))
def EO (a b:bA):Prop:=b.1<=a.1/\a.2.1<=b.2.1
def fP (n:Int) (a:bA):Prop:=a.1<=n/\n<=a.2.1
def EO.refl (a:bA):EO a a:=⟨a1d _,a1d _⟩
def EO.trans {c:bA} (h:EO a b) (d:EO b c):EO a c:=⟨by have:=h.1;have:=d.1;omega,by have:=h.2;have:=d.2;omega⟩
def fP.mono (h:fP n a) (c:EO a b):fP n b:=⟨by have:=h.1;have:=c.1;omega,by have:=h.2;have:=c.2;omega⟩
def RX (v w:gN):Prop:=(aC v=true->aC w=true/\EO (bR v) (bR w))/\cj (ce v) (ce w)
def RX.refl (v:gN):RX v v:=⟨λh=>⟨h,EO.refl _⟩,cj.refl _⟩
def zZ (lo hi al:Int):gN:=
 if lo<=9223372036854775807/\ -9223372036854775808<=hi then(max lo (-9223372036854775808),min hi 9223372036854775807,true,if lo< -9223372036854775808\/9223372036854775807<hi then en al 4 else al,())
 else(0,0,false,if lo< -9223372036854775808\/9223372036854775807<hi then en al 4 else al,())
def Nn (h:ar n):cN n=(n,0):=by
 obtain⟨a,b⟩:=h;unfold cN;rw[ifNegQ,ifNegQ]
def No (V:List Int) (x:Int):x∈uO (V.map cN)↔x∈V/\ar x:=by
 rw[xO,a2y];constructor
 ·rintro⟨n,a,e⟩
  unfold cN at e;split at e
  ·cases e
  ·split at e
   ·cases e
   ·cases e
    exact⟨a,by unfold ar;omega⟩
 ·rintro⟨b,c⟩
  exact⟨x,b,Nn c⟩
def Pc (V:List Int):GR (V.map cN)=true↔∃n∈V,n< -9223372036854775808:=by
 unfold GR;rw[a3w];constructor
 ·rintro⟨p,b,h⟩
  obtain⟨n,a,rfl⟩:=a2y.1 b;refine⟨n,a,?_⟩;unfold cN at h;split at h
  ·assumption
  ·split at h<;>simp at h
 ·rintro⟨n,a,h⟩
  refine⟨cN n,a2y.2 ⟨n,a,rfl⟩,?_⟩;unfold cN;rw[a0b h];simp
def Pd (V:List Int):GS (V.map cN)=true↔∃n∈V,9223372036854775807<n:=by
 unfold GS;rw[a3w];constructor
 ·rintro⟨p,b,h⟩
  obtain⟨n,a,rfl⟩:=a2y.1 b;refine⟨n,a,?_⟩;unfold cN at h;split at h
  ·simp at h
  ·split at h
   ·assumption
   ·simp at h
 ·rintro⟨n,a,h⟩
  refine⟨cN n,a2y.2 ⟨n,a,rfl⟩,?_⟩;unfold cN;rw[ifNegQ,a0b h];simp
def Hi (k:lo∈V) (j:hi∈V) (s:∀n∈V,lo<=n) (w:∀n∈V,n<=hi) (al:Int):mT (V.map cN) al=zZ lo hi al:=by
 have B:lo<=hi:=s _ j;have y:GR (V.map cN)=decide (lo< -9223372036854775808):=by
  rw[a7h,Pc,a0q];exact⟨λ⟨n,z,h⟩=>by have:=s n z;omega,λh=>⟨lo,k,h⟩⟩
 have A:GS (V.map cN)=decide (9223372036854775807<hi):=by
  rw[a7h,Pd,a0q];exact⟨λ⟨n,z,h⟩=>by have:=w n z;omega,λh=>⟨hi,j,h⟩⟩
 have d:=No V;rw[tq,y,A];obtain⟨M,C⟩:∃M,M=uO (V.map cN):=⟨_,rfl⟩;rw[<-C]at d⊢;unfold rU zZ;by_cases b:lo< -9223372036854775808<;>by_cases a:9223372036854775807<hi
 ·rw[a0f b,a0f a,ifPosQ,a0b (Or.inl b)]
  have t:(M++[(-9223372036854775808:Int)]).isEmpty=false:=by cases M<;>rfl
  have i:(M++[(9223372036854775807:Int)]).isEmpty=false:=by cases M<;>rfl
  have m:pR (M++[(-9223372036854775808:Int)])= -9223372036854775808:=by
   obtain⟨f,g⟩:=fF (l:=M++[(-9223372036854775808:Int)]) (by simp);have o:=g (-9223372036854775808) (by simp);rcases a0k.1 f with q|q
   ·have:=((d _).1 q).2.1;omega
   ·exact a0v.1 q
  have p:qM (M++[(9223372036854775807:Int)])=9223372036854775807:=by
   obtain⟨f,g⟩:=fG (l:=M++[(9223372036854775807:Int)]) (by simp);have o:=g 9223372036854775807 (by simp);rcases a0k.1 f with q|q
   ·have:=((d _).1 q).2.2;omega
   ·exact a0v.1 q
  simp only[a1r,t,i,a7p,a2p,m,p];rw[show max lo (-9223372036854775808)= -9223372036854775808 by omega,show min hi 9223372036854775807=9223372036854775807 by omega]
 ·rw[a0f b,a0n a]
  simp only[a1r,a2p,a8c,a2m];rw[a0b (Or.inl b)];by_cases u: -9223372036854775808<=hi
  ·rw[a0b ⟨by omega,u⟩]
   have c:hi∈M:=(d _).2 ⟨j,by unfold ar;omega⟩;have t:(M++[(-9223372036854775808:Int)]).isEmpty=false:=by cases M<;>rfl
   have i:M.isEmpty=false:=by cases M with|nil=>cases c|cons _ _=>rfl
   have m:pR (M++[(-9223372036854775808:Int)])= -9223372036854775808:=by
    obtain⟨f,g⟩:=fF (l:=M++[(-9223372036854775808:Int)]) (by simp);have o:=g (-9223372036854775808) (by simp);rcases a0k.1 f with q|q
    ·have:=((d _).1 q).2.1;omega
    ·exact a0v.1 q
   have p:qM M=hi:=by
    obtain⟨f,g⟩:=fG (l:=M) (λe=>by rw[e]at c;cases c);have o:=g hi c;have:=w _ ((d _).1 f).1;omega
   simp only[t,i,a7p,a2p,m,p];rw[show max lo (-9223372036854775808)= -9223372036854775808 by omega,show min hi 9223372036854775807=hi by omega]
  ·rw[a0e (λh=>u h.2)]
   have i:M.isEmpty=true:=by
    cases M with
    |nil=>rfl
    |cons x r=>have:=(d x).1 (by simp);have D:=w _ this.1;have:=this.2.1;omega
   rw[i,a9n,a1r]
 ·rw[a0n b,a0f a]
  simp only[a1r,a2p,a6j,a2m];rw[a0b (Or.inr a)];by_cases u:lo<=9223372036854775807
  ·rw[a0b ⟨u,by omega⟩]
   have c:lo∈M:=(d _).2 ⟨k,by unfold ar;omega⟩;have t:(M++[(9223372036854775807:Int)]).isEmpty=false:=by cases M<;>rfl
   have i:M.isEmpty=false:=by cases M with|nil=>cases c|cons _ _=>rfl
   have m:qM (M++[(9223372036854775807:Int)])=9223372036854775807:=by
    obtain⟨f,g⟩:=fG (l:=M++[(9223372036854775807:Int)]) (by simp);have o:=g 9223372036854775807 (by simp);rcases a0k.1 f with q|q
    ·have:=((d _).1 q).2.2;omega
    ·exact a0v.1 q
   have p:pR M=lo:=by
    obtain⟨f,g⟩:=fF (l:=M) (λe=>by rw[e]at c;cases c);have o:=g lo c;have:=s _ ((d _).1 f).1;omega
   simp only[t,i,a7p,a2p,m,p];rw[show max lo (-9223372036854775808)=lo by omega,show min hi 9223372036854775807=9223372036854775807 by omega]
  ·rw[a0e (λh=>u h.1)]
   have i:M.isEmpty=true:=by
    cases M with
    |nil=>rfl
    |cons x r=>have:=(d x).1 (by simp);have D:=s _ this.1;have:=this.2.2;omega
   rw[i,a9o,a1r]
 ·rw[a0n b,a0n a]
  simp only[a2p,a8c,a2m,a7p];rw[a0b (show lo<=9223372036854775807/\ -9223372036854775808<=hi by omega),a0e (show¬(lo< -9223372036854775808\/9223372036854775807<hi) by omega)];have c:lo∈M:=(d _).2 ⟨k,by unfold ar;omega⟩;have v:hi∈M:=(d _).2 ⟨j,by unfold ar;omega⟩;have i:M.isEmpty=false:=by cases M with|nil=>cases c|cons _ _=>rfl
  have m:pR M=lo:=by
   obtain⟨f,g⟩:=fF (l:=M) (λe=>by rw[e]at c;cases c);have o:=g lo c;have:=s _ ((d _).1 f).1;omega
  have p:qM M=hi:=by
   obtain⟨f,g⟩:=fG (l:=M) (λe=>by rw[e]at c;cases c);have o:=g hi v;have:=w _ ((d _).1 f).1;omega
  simp only[i,a2p,m,p];rw[show max lo (-9223372036854775808)=lo by omega,show min hi 9223372036854775807=hi by omega]
def Bl (d:lo<=n) (e:n<=hi):(ar n->aC (zZ lo hi al)=true/\fP n (bR (zZ lo hi al)))/\(¬ar n->cj 4 (ce (zZ lo hi al)))/\cj al (ce (zZ lo hi al)):=by
 have b:cj al (if lo< -9223372036854775808\/9223372036854775807<hi then en al 4 else al):=by
  split
  ·exact cj.left _ _
  ·exact cj.refl _
 refine⟨λ⟨f1,f2⟩=> ?_,λc=> ?_,?_⟩
 ·unfold zZ
  rw[ifPosQ];exact⟨rfl,⟨by show max lo _<=n;omega,by show n<=min hi _;omega⟩⟩
 ·have a:lo< -9223372036854775808\/9223372036854775807<hi:=by unfold ar at c;omega
  unfold zZ;rw[a0b a];split<;>exact cj.right _ _
 ·unfold zZ
  split<;>exact b
def RY (f:Int->Int) (lo hi:Int):Prop:=(∀x y,lo<=x->x<=y->y<=hi->f x<=f y)\/(∀x y,lo<=x->x<=y->y<=hi->f y<=f x)
def o5 {f:Int->Int} (h:RY f lo hi) (a:lo<=x) (b:x<=hi):(f lo<=f x/\f x<=f hi)\/(f hi<=f x/\f x<=f lo):=by
 rcases h with h|h
 ·exact Or.inl ⟨h lo x (a1d _) a b,h x hi a b (a1d _)⟩
 ·exact Or.inr ⟨h x hi a b (a1d _),h lo x (a1d _) a b⟩
def kN (g:Int->Int->Int) (a b:bA):List Int:=[g a.1 b.1,g a.1 b.2.1,g a.2.1 b.1,g a.2.1 b.2.1]
def Bm (g:Int->Int->Int) (a b:bA):Prop:=(∀y,b.1<=y->y<=b.2.1->RY (λx=>g x y) a.1 a.2.1)/\∀x,a.1<=x->x<=a.2.1->RY (λy=>g x y) b.1 b.2.1
def Np (h:Bm g a b) (e:a.1<=a.2.1) (t:b.1<=b.2.1) (f:fP x a) (d:fP y b):(∃c∈kN g a b,c<=g x y)/\∃c∈kN g a b,g x y<=c:=by
 have i:=o5 (h.1 y d.1 d.2) f.1 f.2;have j:=o5 (h.2 a.1 (a1d _) e) d.1 d.2;have k:=o5 (h.2 a.2.1 e (a1d _)) d.1 d.2;have l:g a.1 b.1∈kN g a b:=by simp[kN]
 have m:g a.1 b.2.1∈kN g a b:=by simp[kN]
 have n:g a.2.1 b.1∈kN g a b:=by simp[kN]
 have o:g a.2.1 b.2.1∈kN g a b:=by simp[kN]
 constructor
 ·rcases i with⟨p,q⟩|⟨p,q⟩
  ·rcases j with⟨r,s⟩|⟨r,s⟩
   ·exact⟨_,l,by omega⟩
   ·exact⟨_,m,by omega⟩
  ·rcases k with⟨r,s⟩|⟨r,s⟩
   ·exact⟨_,n,by omega⟩
   ·exact⟨_,o,by omega⟩
 ·rcases i with⟨p,q⟩|⟨p,q⟩
  ·rcases k with⟨r,s⟩|⟨r,s⟩
   ·exact⟨_,o,by omega⟩
   ·exact⟨_,n,by omega⟩
  ·rcases j with⟨r,s⟩|⟨r,s⟩
   ·exact⟨_,m,by omega⟩
   ·exact⟨_,l,by omega⟩
def Pe (a b:bA):Bm (λx y=>x+y) a b:=⟨λy _ _=>Or.inl λp q _ h _=>by simp only;omega,λx _ _=>Or.inl λp q _ h _=>by simp only;omega⟩
def In (a b:bA):Bm (λx y=>x-y) a b:=⟨λy _ _=>Or.inl λp q _ h _=>by simp only;omega,λx _ _=>Or.inr λp q _ h _=>by simp only;omega⟩
def Pf (a b:bA):Bm (λx y=>x*y) a b:=by
 refine⟨λy _ _=> ?_,λx _ _=> ?_⟩
 ·by_cases c:0<=y
  ·exact Or.inl λp q _ h _=>Int.mul_le_mul_of_nonneg_right h c
  ·exact Or.inr λp q _ h _=>Int.mul_le_mul_of_nonpos_right h (by omega)
 ·by_cases d:0<=x
  ·exact Or.inl λp q _ h _=>a5k h d
  ·exact Or.inr λp q _ h _=>Int.mul_le_mul_of_nonpos_left (by omega) h
def yw (V:List Int) (al:Int):gN:=mT (V.map cN) al
def Pg (al:Int):yw [] al=(0,0,false,al,()):=rfl
def Io (h:V≠[]) (al:Int):yw V al=zZ (pR V) (qM V) al:=Hi (fF h).1 (fG h).1 (fF h).2 (fG h).2 al
def Qv (V:List Int) (al:Int):cj al (ce (yw V al)):=by
 by_cases h:V=[]
 ·rw[h,Pg];exact cj.refl _
 ·rw[Io h]
  exact(Bl (n:=pR V) (a1d _) ((fF h).2 _ (fG h).1)).2.2
def KV (b:∃c∈V,c<=n) (d:∃c∈V,n<=c):(ar n->aC (yw V al)=true/\fP n (bR (yw V al)))/\(¬ar n->cj 4 (ce (yw V al))):=by
 obtain⟨c1,a,l1⟩:=b;obtain⟨c2,f,l2⟩:=d;have h:V≠[]:=λe=>by rw[e]at a;cases a
 rw[Io h];have:=Bl (lo:=pR V) (hi:=qM V) (n:=n) (al:=al) (by have:=(fF h).2 _ a;omega) (by have:=(fG h).2 _ f;omega);exact⟨this.1,this.2.1⟩
def sn (h:bj a=true):a.1<=a.2.1:=a0z h
def PT (c:bj a=true) (d:bj b=true):co a b=true:=by unfold co;rw[c,d];rfl
def Qw (c:∀x y,f x y=cN (g x y)) (d:bj a=true) (e:bj b=true):lA f a b=yw (kN g a b) 0:=by
 unfold lA yw;rw[cT (PT d e)]
 congr 1
 simp[dH,kN,c]
def jJ (c:Int):Int:=if c=4 then 1 else if c=5 then 2 else if c=6 then 4 else if c=7 then 8 else 0
def tJ (p:Int×Int) (v:gN):Prop:=(p.2=0->aC v=true/\fP p.1 (bR v))/\(p.2≠0->cj (jJ p.2) (ce v))
def tJ.mono {p:Int×Int} {v w:gN} (h:tJ p v) (b:RX v w):tJ p w:=⟨λa=>⟨(b.1 (h.1 a).1).1,(h.1 a).2.mono (b.1 (h.1 a).1).2⟩,λa=>(h.2 a).trans b.2⟩
def Ph (h:ar n):gO (cN n)=(n,0):=by rw[Nn h];rfl
def Nq (h:¬ar n):gO (cN n)=(0,6):=by
 unfold ar at h;unfold gO cN;by_cases a:n< -9223372036854775808
 ·rw[a0b a];rfl
 ·rw[a0e a,a0b (show 9223372036854775807<n by omega)];rfl
def EP (b:∃c∈V,c<=n) (d:∃c∈V,n<=c):tJ (gO (cN n)) (yw V al):=by
 obtain⟨e,f⟩:=KV (al:=al) b d;by_cases h:ar n
 ·rw[Ph h];exact⟨λ_=>e h,λa=>absurd rfl a⟩
 ·rw[Nq h];exact⟨λa=>(by cases a),λ_=>f h⟩
def vK (e:∀x y,f x y=cN (g x y)) (h:∀a b:bA,Bm g a b) (c:bj a=true) (d:bj b=true) (i:fP x a) (j:fP y b):tJ (gO (cN (g x y))) (lA f a b):=by
 rw[Qw e c d];obtain⟨k,l⟩:=Np (h a b) (sn c) (sn d) i j;exact EP k l
def Ip {a:Int} (b:0<y) (h:x<=a):x.tdiv y<=a.tdiv y:=Int.tdiv_le_tdiv b h
def Bn {y':Int} (a:0<=x) (b:0<y) (h:y<=y'):x.tdiv y'<=x.tdiv y:=by
 rw[a5u a,a5u a];have d:x/y'*y'<=x:=Int.ediv_mul_le x (by omega);have c:0<=x/y':=a8x a (by omega);apply(Int.le_ediv_iff_mul_le b).2;have:x/y'*y<=x/y'*y':=a5k h c;omega
def sq {y':Int} (a:0<y:=by omega) (h:y<=y':=by omega):(0<=x->x.tdiv y'<=x.tdiv y)/\(x<=0->x.tdiv y<=x.tdiv y'):=by
 refine⟨λb=>Bn b a h,λb=> ?_⟩;have:=Bn (x:= -x) (by omega) a h;rw[Int.neg_tdiv,Int.neg_tdiv]at this;omega
def Pi (a:bA) {q:bA} (hq:0<q.1\/q.2.1<0):Bm (λx y=>x.tdiv y) a q:=by
 refine⟨λy d e=> ?_,λx d e=> ?_⟩
 ·rcases hq with hq|hq
  ·exact Or.inl λp r _ h _=>Ip (by omega) h
  ·refine Or.inr λp r _ h _=> ?_
   have:=Ip (y:= -y) (by omega) h;simp only[a7m]at this;simp only;omega
 ·rcases hq with hq|hq
  ·by_cases b:0<=x
   ·exact Or.inr λp r c h _=>(sq (by omega) h).1 b
   ·exact Or.inl λp r c h _=>(sq (by omega) h).2 (by omega)
  ·by_cases b:0<=x
   ·refine Or.inr λp r c h f=> ?_
    have:=(sq (x:=x) (y:= -r) (y':= -p)).1 b;simp only[a7m]at this;simp only;omega
   ·refine Or.inl λp r c h f=> ?_
    have:=(sq (x:=x) (y:= -r) (y':= -p)).2 (by omega);simp only[a7m]at this;simp only;omega
def tK (a:b.1<=b.2.1):∀q∈ci b,(0<q.1\/q.2.1<0)/\q.1<=q.2.1/\EO q b:=by
 intro q hq;unfold ci at hq;rcases a0k.1 hq with hq|hq
 ·split at hq
  ·rw[a0v.1 hq]
   refine⟨Or.inr ?_,?_,?_⟩
   ·show(if b.2.1< -1 then b.2.1 else-1)<0
    split<;>omega
   ·show b.1<=(if b.2.1< -1 then b.2.1 else-1)
    split<;>omega
   ·refine⟨a1d _,?_⟩
    show(if b.2.1< -1 then b.2.1 else-1)<=b.2.1;split<;>omega
  ·cases hq
 ·split at hq
  ·rw[a0v.1 hq]
   refine⟨Or.inl ?_,?_,?_⟩
   ·show 0<(if b.1>1 then b.1 else 1)
    split<;>omega
   ·show(if b.1>1 then b.1 else 1)<=b.2.1
    split<;>omega
   ·refine⟨?_,a1d _⟩
    show b.1<=(if b.1>1 then b.1 else 1);split<;>omega
  ·cases hq
def EQ (a:fP y b) (e:y≠0):∃q∈ci b,fP y q:=by
 obtain⟨c,d⟩:=a;unfold ci;by_cases f:y<0
 ·refine⟨(b.1,if b.2.1< -1 then b.2.1 else-1,()),a0k.2 (Or.inl ?_),c,?_⟩
  ·rw[a0b (show b.1<0 by omega)];simp
  ·show y<=(if b.2.1< -1 then b.2.1 else-1)
   split<;>omega
 ·refine⟨(if b.1>1 then b.1 else 1,b.2.1,()),a0k.2 (Or.inr ?_),?_,d⟩
  ·rw[a0b (show b.2.1>0 by omega)];simp
  ·show(if b.1>1 then b.1 else 1)<=y
   split<;>omega
def Nr (a b:bA):List Int:=(ci b).flatMap (kN (λx y=>x.tdiv y) a)
def Qy (f:b.1<=b.2.1):Es a b=(Nr a b).map cN:=by
 have c:∀l:List bA,(∀q∈l,0<q.1\/q.2.1<0)->(∀q∈l,q.1<=q.2.1)->l.flatMap (dH du a)=(l.flatMap (kN (λx y=>x.tdiv y) a)).map cN:=by
  intro l
  induction l with
  |nil=>intro _ _;rfl
  |cons q l ih=>
   intro g h;rw[a5s,a5s,a3d,ih (λz d=>g z (by simp[d])) (λz d=>h z (by simp[d]))]
   congr 1
   have k:=g q (by simp);have m:=h q (by simp);have i:∀x,du x q.1=cN (x.tdiv q.1):=λx=>by unfold du;rw[ifNegQ]
   have j:∀x,du x q.2.1=cN (x.tdiv q.2.1):=λx=>by unfold du;rw[ifNegQ]
   simp[dH,kN,i,j]
 exact c _ (λq e=>(tK f q e).1) (λq e=>(tK f q e).2.1)
def Pj (d:bj a=true) (c:bj b=true):qc a b=yw (Nr a b) (jM b):=by
 unfold qc yw;rw[cT (PT d c),Qy (sn c)]
def Qz (f:a.1<=a.2.1) (g:b.1<=b.2.1) (h:fP x a) (i:fP y b) (j:y≠0):(∃c∈Nr a b,c<=x.tdiv y)/\∃c∈Nr a b,x.tdiv y<=c:=by
 obtain⟨q,d,e⟩:=EQ i j;obtain⟨k,l,_⟩:=tK g q d;obtain⟨⟨c1,m,l1⟩,c2,n,l2⟩:=Np (Pi a k) f l h e;exact⟨⟨c1,a3q.2 ⟨q,d,m⟩,l1⟩,c2,a3q.2 ⟨q,d,n⟩,l2⟩
def Ns (h:fP 0 b):jM b=1:=by
 unfold jM;have:iO b 0=true:=a0f h;rw[this];rfl
def Nt (d:bj a=true) (e:bj b=true) (g:fP x a) (f:fP y b):tJ (if y=0 then(0,4)else gO (du x y)) (qc a b):=by
 rw[Pj d e];by_cases c:y=0
 ·rw[a0b c]
  refine⟨λh=>(by cases h),λ_=> ?_⟩;have:=Qv (Nr a b) (jM b);rw[Ns (by rw[<-c];exact f)]at this⊢;exact this
 ·rw[a0e c]
  have:du x y=cN (x.tdiv y):=by unfold du;rw[a0e c]
  rw[this];obtain⟨i,j⟩:=Qz (sn d) (sn e) g f c;exact EP i j
def Nu (c:fP y b) (d:y≠0):(ci b).isEmpty=false:=by
 obtain⟨q,a,_⟩:=EQ c d
 cases hp:ci b with
 |nil=>rw[hp]at a;cases a
 |cons _ _=>rfl
def KW (e:y≠0):(0<=x->0<=x.tmod y/\x.tmod y<=x)/\(x<=0->x.tmod y<=0/\x<=x.tmod y)/\ -(cK y-1)<=x.tmod y/\x.tmod y<=cK y-1:=by
 have f:=a8y x y;have g:=a9l x.natAbs (show 0<y.natAbs by omega);have h:=Nat.mod_le x.natAbs y.natAbs;have d:cK y=(y.natAbs:Int):=by unfold cK;split<;>omega
 have a:0<=x->0<=x.tmod y:=λb=>a7e _ b
 have c:x<=0->x.tmod y<=0:=λb=>by
  have:=a7e y (show 0<= -x by omega);rw[Int.neg_tmod]at this;omega
 rw[d];refine⟨λb=>⟨a b,?_⟩,λb=>⟨c b,?_⟩,?_,?_⟩
 ·have:=a b;omega
 ·have:=c b;omega
 ·omega
 ·omega
def Nv (e:bw b) (f:bj a=true) (c:bj b=true) (d:(ci b).isEmpty=false) (g:(a.1==a.2.1&& b.1==b.2.1)=false):jx a b=((if a.1<0 then(if a.1> -lX b then a.1 else-lX b)else 0),(if a.2.1>0 then(if a.2.1<lX b then a.2.1 else lX b)else 0),true,jM b,()):=by
 obtain⟨h,i,j⟩:=CX e d c;have w:wrap .i64 (0-lX b)= -lX b:=by rw[ak (by omega) (by omega)];omega
 unfold jx;rw[cT (PT f c),cF d,cF g,w];by_cases c1:a.1<0<;>by_cases c2:a.2.1>0<;>simp only[c1,c2,a9h,a7n,a1r,a2p,a1s,a1z]
def Iq (c:bj a=true) (d:bj b=true) (e:(ci b).isEmpty=false) (f:(a.1==a.2.1&& b.1==b.2.1)=true):jx a b=(pQ a.1 b.1,pQ a.1 b.1,true,jM b,()):=by
 unfold jx;rw[cT (PT c d),cF e,cT f]
def Nw (c:bj a=true) (d:bj b=true) (e:(ci b).isEmpty=true):jx a b=(0,0,false,jM b,()):=by
 unfold jx;rw[cT (PT c d),cT e]
def QA (c:bj a=true) (d:bj b=true) (e:bw b):ce (jx a b)=jM b:=by
 cases hp:(ci b).isEmpty
 ·cases hs:(a.1==a.2.1&& b.1==b.2.1)
  ·rw[Nv e c d hp hs];rfl
  ·rw[Iq c d hp hs];rfl
 ·rw[Nw c d hp];rfl
def QB (a:fP y b):cK y<=max (cK b.1) (cK b.2.1):=by
 obtain⟨c,d⟩:=a;unfold cK;split<;>split<;>split<;>omega
def QC (h:bw b) (i:bj a=true) (d:bj b=true) (j:fP x a) (e:fP y b) (k:y≠0):aC (jx a b)=true/\fP (x.tmod y) (bR (jx a b)):=by
 have f:=Nu e k;obtain⟨l,m,t,u⟩:=KW (x:=x) k
 cases hs:(a.1==a.2.1&& b.1==b.2.1)
 ·obtain⟨v,w,z⟩:=CX h f d
  have n:=QB e;rw[Nv h i d f hs];obtain⟨o,p⟩:=j;refine⟨rfl,?_,?_⟩
  ·show(if a.1<0 then(if a.1> -lX b then a.1 else-lX b)else 0)<=x.tmod y
   by_cases c:0<=x
   ·have:=(l c).1
    split
    ·split<;>omega
    ·omega
   ·have:=(m (by omega)).2
    rw[a0b (show a.1<0 by omega)];split<;>omega
  ·show x.tmod y<=(if a.2.1>0 then(if a.2.1<lX b then a.2.1 else lX b)else 0)
   by_cases c:0<=x
   ·have:=(l c).2
    by_cases g:x=0
    ·have:x.tmod y=0:=by rw[g];exact Int.zero_tmod y
     rw[this];split
     ·split<;>omega
     ·omega
    ·rw[a0b (show a.2.1>0 by omega)]
     split<;>omega
   ·have:=(m (by omega)).1
    split
    ·split<;>omega
    ·omega
 ·rw[Iq i d f hs]
  simp only[a0c,a3f]at hs;obtain⟨o,p⟩:=j;obtain⟨A,B⟩:=e;have q:x=a.1:=by omega
  have r:y=b.1:=by omega
  have s:pQ a.1 b.1=x.tmod y:=by unfold pQ;rw[ifNegQ,q,r]
  rw[s];exact⟨rfl,a1d _,a1d _⟩
def Nx (d:bw b) (e:bj a=true) (f:bj b=true) (i:fP x a) (g:fP y b):tJ (if y=0 then(0,4)else(pQ x y,0)) (jx a b):=by
 by_cases c:y=0
 ·rw[a0b c]
  refine⟨λh=>(by cases h),λ_=> ?_⟩;rw[QA e f d,Ns (by rw[<-c];exact g)];exact cj.refl _
 ·rw[a0e c]
  refine⟨λ_=> ?_,λh=>absurd rfl h⟩;have j:pQ x y=x.tmod y:=by unfold pQ;rw[a0e c]
  rw[j];exact QC d e f i g c
def ER (k:13<=op) (l:op<=18) (f:a.1<=a.2.1) (g:b.1<=b.2.1):dv op a b=true↔∃x y,fP x a/\fP y b/\eU op x y=true:=by
 have i:op=13\/op=14\/op=15\/op=16\/op=17\/op=18:=by omega
 rcases i with rfl|rfl|rfl|rfl|rfl|rfl
 ·simp only[dv,eU,a1s,a0q]
  exact⟨λh=>⟨a.1,b.2.1,⟨a1d _,f⟩,⟨g,a1d _⟩,h⟩,λ⟨x,y,c,d,h⟩=>by have:=c.1;have:=d.2;omega⟩
 ·simp only[dv,eU,show¬(14:Int)=13 by omega,a1z,a1s,a0q]
  exact⟨λh=>⟨a.1,b.2.1,⟨a1d _,f⟩,⟨g,a1d _⟩,h⟩,λ⟨x,y,c,d,h⟩=>by have:=c.1;have:=d.2;omega⟩
 ·simp only[dv,eU,show¬(15:Int)=13 by omega,show¬(15:Int)=14 by omega,a1z,a1s,a0c,a0q,a3f]
  constructor
  ·intro h
   refine⟨max a.1 b.1,max a.1 b.1,⟨by omega,by omega⟩,⟨by omega,by omega⟩,rfl⟩
  ·rintro⟨x,y,c,d,h⟩
   have:=c.1;have:=c.2;have:=d.1;have:=d.2;omega
 ·simp only[dv,eU,show¬(16:Int)=13 by omega,show¬(16:Int)=14 by omega,show¬(16:Int)=15 by omega,a1z,a1s,a4z,bne_iff_ne]
  constructor
  ·intro h
   by_cases e:a.1=b.1
   ·by_cases j:a.1=a.2.1
    ·exact⟨a.1,b.2.1,⟨a1d _,f⟩,⟨g,a1d _⟩,by rcases h with h|h|h<;>omega⟩
    ·exact⟨a.2.1,b.1,⟨f,a1d _⟩,⟨a1d _,g⟩,by omega⟩
   ·exact⟨a.1,b.1,⟨a1d _,f⟩,⟨a1d _,g⟩,e⟩
  ·rintro⟨x,y,c,d,h⟩
   have:=c.1;have:=c.2;have:=d.1;have:=d.2;by_cases e:a.1=a.2.1
   ·by_cases j:b.1=b.2.1
    ·exact Or.inr (Or.inr (by omega))
    ·exact Or.inr (Or.inl j)
   ·exact Or.inl e
 ·simp only[dv,eU,show¬(17:Int)=13 by omega,show¬(17:Int)=14 by omega,show¬(17:Int)=15 by omega,show¬(17:Int)=16 by omega,a1z,a1s,a0q]
  exact⟨λh=>⟨a.2.1,b.1,⟨f,a1d _⟩,⟨a1d _,g⟩,h⟩,λ⟨x,y,c,d,h⟩=>by have:=c.2;have:=d.1;omega⟩
 ·simp only[dv,eU,show¬(18:Int)=13 by omega,show¬(18:Int)=14 by omega,show¬(18:Int)=15 by omega,show¬(18:Int)=16 by omega,show¬(18:Int)=17 by omega,a1z,a0q]
  exact⟨λh=>⟨a.2.1,b.1,⟨f,a1d _⟩,⟨a1d _,g⟩,h⟩,λ⟨x,y,c,d,h⟩=>by have:=c.2;have:=d.1;omega⟩
def KX (b:13<=op) (c:op<=18) (x y:Int):eU (31-op) x y= !eU op x y:=by
 have a:op=13\/op=14\/op=15\/op=16\/op=17\/op=18:=by omega
 rw[a7h];rcases a with rfl|rfl|rfl|rfl|rfl|rfl<;>simp[eU]<;>omega
def QD (c:13<=op) (d:op<=18) (e:bj a=true) (f:bj b=true):vm op a b=(cond (dv (31-op) a b) 0 1,cond (dv op a b) 1 0,()):=by
 unfold vm;rw[cT (by rw[a0f (And.intro c d),PT e f];rfl)]
def QE (c:13<=op) (d:op<=18) (e:bj a=true) (f:bj b=true) (g:fP x a) (h:fP y b):fP (iP (eU op x y)) (vm op a b):=by
 rw[QD c d e f];refine⟨?_,?_⟩
 ·show cond (dv (31-op) a b) 0 1<=iP (eU op x y)
  cases hc:eU op x y
  ·have:dv (31-op) a b=true:=(ER (op:=31-op) (by omega) (by omega) (sn e) (sn f)).2 ⟨x,y,g,h,by rw[KX c d,hc];rfl⟩
   rw[this];simp[iP]
  ·cases dv (31-op) a b<;>simp[iP]
 ·show iP (eU op x y)<=cond (dv op a b) 1 0
  cases hc:eU op x y
  ·cases dv op a b<;>simp[iP]
  ·have:dv op a b=true:=(ER c d (sn e) (sn f)).2 ⟨x,y,g,h,hc⟩
   rw[this];simp[iP]
def Ny (n:nT op=2) (s:1<=op/\op<=21) (t:bw b) (j:bj a=true) (k:bj b=true) (l:fP x a) (m:fP y b):tJ (i6 op x y) (rY op a b):=by
 unfold rY i6;by_cases p:op=8
 ·rw[a0b p,a0b p];exact vK (g:=λx y=>x+y) (λ_ _=>rfl) Pe j k l m
 rw[a0e p,a0e p];by_cases q:op=9
 ·rw[a0b q,a0b q];exact vK (g:=λx y=>x-y) (λ_ _=>rfl) In j k l m
 rw[a0e q,a0e q];by_cases c:op=10
 ·rw[a0b c,a0b c];exact vK (g:=λx y=>x*y) (λ_ _=>rfl) Pf j k l m
 rw[a0e c,a0e c];by_cases d:op=11
 ·rw[a0b d,a0b d];exact Nt j k l m
 rw[a0e d,a0e d];by_cases e:op=12
 ·rw[a0b e,a0b e];exact Nx t j k l m
 rw[a0e e,a0e e];obtain⟨u,v⟩:=l;obtain⟨w,z⟩:=m;by_cases f:op=20
 ·rw[a0b f,a0b f]
  refine⟨λ_=>⟨rfl,?_,?_⟩,λh=>absurd rfl h⟩
  ·show(if b.1<a.1 then b.1 else a.1)<=(if y<x then y else x)
   split<;>split<;>omega
  ·show(if y<x then y else x)<=(if b.2.1<a.2.1 then b.2.1 else a.2.1)
   split<;>split<;>omega
 rw[a0e f,a0e f];by_cases i:op=21
 ·rw[a0b i,a0b i]
  refine⟨λ_=>⟨rfl,?_,?_⟩,λh=>absurd rfl h⟩
  ·show(if b.1>a.1 then b.1 else a.1)<=(if y>x then y else x)
   split<;>split<;>omega
  ·show(if y>x then y else x)<=(if b.2.1>a.2.1 then b.2.1 else a.2.1)
   split<;>split<;>omega
 rw[a0e i,a0e i];have o:13<=op/\op<=18:=by
  have A:op≠19:=λh=>by rw[h]at n;simp[nT]at n
  have B:¬op<=7:=λh=>by
   unfold nT at n;by_cases r:op<=5
   ·rw[a0b r]at n;omega
   ·rw[a0e r,ifPosQ]at n;omega
  omega
 exact⟨λ_=>⟨rfl,QE o.1 o.2 j k ⟨u,v⟩ ⟨w,z⟩⟩,λh=>absurd rfl h⟩
def KY (d:bj a=true) (f:bj b=true):((dG a b).2.1=true↔max a.1 b.1<=min a.2.1 b.2.1)/\(max a.1 b.1<=min a.2.1 b.2.1->dG a b=((max a.1 b.1,min a.2.1 b.2.1,()),true,())):=by
 have c:iz a b=(max a.1 b.1,min a.2.1 b.2.1,()):=by
  unfold iz;rw[show(if b.1>a.1 then b.1 else a.1)=max a.1 b.1 by split<;>omega,show(if b.2.1<a.2.1 then b.2.1 else a.2.1)=min a.2.1 b.2.1 by split<;>omega]
 unfold dG;rw[PT d f,a2d,c];by_cases h:max a.1 b.1<=min a.2.1 b.2.1
 ·rw[cT (show bj (max a.1 b.1,min a.2.1 b.2.1,())=true from a0f h)]
  exact⟨⟨λ_=>h,λ_=>rfl⟩,λ_=>rfl⟩
 ·rw[cF (show bj (max a.1 b.1,min a.2.1 b.2.1,())=false from a0n h)]
  exact⟨⟨λe=>(by cases e),λe=>absurd e h⟩,λe=>absurd e h⟩
def KZ (a b:List bA):Prop:=a.length=b.length/\∀i,EO (a.getD i fS) (b.getD i fS)
def Lr (a b:bh):Prop:=a.1=true->b.1=true/\KZ a.2.1 b.2.1/\KZ a.2.2.1 b.2.2.1
def KZ.refl (a:List bA):KZ a a:=⟨rfl,λ_=>EO.refl _⟩
def KZ.trans {a b c:List bA} (h:KZ a b) (d:KZ b c):KZ a c:=⟨h.1.trans d.1,λi=>(h.2 i).trans (d.2 i)⟩
def Lr.refl (a:bh):Lr a a:=λh=>⟨h,KZ.refl _,KZ.refl _⟩
def Lr.trans {a b c:bh} (h:Lr a b) (d:Lr b c):Lr a c:=λe=>by
 obtain⟨f,g,i⟩:=h e;obtain⟨c1,c2,j⟩:=d f;exact⟨c1,g.trans c2,i.trans j⟩
def Lr.dead {a:bh} (h:a.1=false) (b:bh):Lr a b:=λc=>by rw[h]at c;cases c
def ES {l:List bA} {i:Nat} (h:¬i<l.length):l.getD i fS=fS:=by simp[List.getD,a0w (a5m h)]
def KZ.set {a b:List bA} (h:KZ a b) (v:Nat) {x y:bA} (f:EO x y):KZ (a.set v x) (b.set v y):=by
 refine⟨by rw[a3j,a3j];exact h.1,λi=> ?_⟩;by_cases hi:i<a.length
 ·have c:i<b.length:=by have:=h.1;omega
  rw[ay (by rw[a3j];exact hi),ay (by rw[a3j];exact c),a8m,a8m];have e:=h.2 i;rw[ay hi,ay c]at e;by_cases d:v=i
  ·rw[a0b d,a0b d];exact f
  ·rw[a0e d,a0e d];exact e
 ·rw[ES (by rw[a3j];exact hi),ES (by rw[a3j];have:=h.1;omega)]
  exact EO.refl _
def Ir (h:aY d=true):∀a∈d.2.2.1,1<=a.2.1/\a.2.1<=16:=by
 simp only[aY,a0c,a0q]at h;intro a b;have:=h.2.1;simp only[qL,a2b,a5t,a2b,a6m,a0q]at this;have:=this a b;simpa using this
def q6 {x:kF} (h:1<=x.2.1/\x.2.1<=16):pz x=(0,x.2.1-1,()):=by
 unfold pz;rw[ak (by omega) (by omega)]
def yx {x:kF} (h:1<=x.2.1/\x.2.1<=16):bj (pz x)=true:=by
 rw[q6 h];exact a0f (show(0:Int)<=x.2.1-1 by omega)
def ET {x:kF} (h:1<=x.2.1/\x.2.1<=16) (b:bj a=true):fR x a=true↔max a.1 0<=min a.2.1 (x.2.1-1):=by
 unfold fR;rw[(KY b (yx h)).1,q6 h]
def yy {x:kF} (h:1<=x.2.1/\x.2.1<=16) (b:bj a=true):iB x a=if 0<=a.1/\a.2.1<=x.2.1-1 then 0 else 2:=by
 unfold iB AM;rw[PT b (yx h),q6 h,a2d];by_cases c:0<=a.1<;>by_cases d:a.2.1<=x.2.1-1<;>simp[c,d]
def pG (al:Int) (v:gN):ce (dw al v)=en al (ce v):=by
 rcases a0r (aC v)with l|l
 ·rw[mW l];rfl
 ·rw[qR l];rfl
def QF {a:Ex}:cj (ce (aB d e leaf a)) (ce (aB d e leaf (.one t a))):=by
 rcases a0r (aC (aB d e leaf a))with l|l
 ·rw[l7 l,pG];exact cj.left _ _
 ·rw[pC l];exact cj.refl _
def QG {a b:Ex}:cj (ce (aB d e leaf a)) (ce (aB d e leaf (.two t a b))):=by
 rcases a0r (aC (aB d e leaf a))with l|l
 ·rcases a0r (aC (aB d e leaf b))with m|m
  ·rw[ka l m,pG];exact(cj.left _ _).trans (cj.left _ _)
  ·rw[l9 l m];exact cj.left _ _
 ·rw[pD l];exact cj.refl _
def Pk {a b:Ex} (l:aC (aB d e leaf a)=true):cj (en (ce (aB d e leaf a)) (ce (aB d e leaf b))) (ce (aB d e leaf (.two t a b))):=by
 rcases a0r (aC (aB d e leaf b))with m|m
 ·rw[ka l m,pG];exact cj.left _ _
 ·rw[l9 l m];exact cj.refl _
