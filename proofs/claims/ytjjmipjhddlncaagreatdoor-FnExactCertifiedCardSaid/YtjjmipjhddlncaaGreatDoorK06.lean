/-
  Small laws for the printed texts.
-/
import Derived.Test.YtjjmipjhddlncaaGreatDoorK02
import Derived.Lib.ItoaNum
import Derived.Test.YtjjmipjhddlncaaGreatDoorK05
import Derived.KernelRfl
set_option linter.all false
open Go.IntKind (wrap)
namespace Go.Pev
@[simp] theorem ah {α:Type} (n:Nat) (x y:Option α):br n true x y=x:=by rw[eA];rfl
@[simp] theorem af {α:Type} (n:Nat) (x y:Option α):br n false x y=y:=by rw[eA];rfl
@[simp] theorem aa {α β:Type} (n:Nat) (a:β) (f:β->Option α):bd n (some a) f=f a:=by rw[Dm];rfl
@[simp] theorem P0 {α β:Type} (n:Nat) (f:β->Option α):bd n none f=none:=by rw[Dm];rfl
def ak {α:Type} (n:Nat) (p:Prop) [Decidable p] (x y:Option α):br n (decide p) x y=if p then x else y:=by
 by_cases h:p<;>simp[h]
def aF {A R:Type} (b:(A->Option R)->A->Option R) (n:Nat) (x:A):aG b (n+1) x=b (aG b n) x:=rfl
def am {n:Int} (a: -9223372036854775808<=n) (b:n<=9223372036854775807):wrap .i64 n=n:=by
 simp[wrap,IntKind.bits,IntKind.signed];omega
def iF {n:Int} (a:0<=n) (b:n<18446744073709551616):wrap .u64 n=n:=by
 simp[wrap,IntKind.bits,IntKind.signed];omega
def q5 {n:Int} (a: -9223372036854775808<=n) (b:n<0):wrap .u64 n=n+18446744073709551616:=by
 simp[wrap,IntKind.bits,IntKind.signed];omega
end Go.Pev
namespace Go.Pev.F
def cg {α:Type} (k:Nat) (a b:Int) (x y:Option α):br k (a==b) x y=if a=b then x else y:=by
 by_cases h:a=b
 ·simp[h]
 ·have:(a==b)=false:=by simpa using h
  rw[this,af,a0c h]
def jP (k:Nat) (a b c:Int):qW k (a,b,c,())=some ((decide (b<=a/\a<=c),()),((),(),(),())):=by
 unfold qW;by_cases h:b<=a<;>by_cases d:a<=c<;>simp[h,d]
def dC (k:Nat) (a b c:Int):z6 k (a,b,c,())=some ((decide (b<=a/\a<=c),()),((),(),(),())):=by
 unfold z6;by_cases h:b<=a<;>by_cases d:a<=c<;>simp[h,d]
end Go.Pev.F
namespace Go.Pev
def aR {A R:Type} {b:(A->Option R)->A->Option R} (st:Nat->A) (m:Nat) {r:Option R} (h:∀G i,i<m->b G (st i)=G (st (i+1))) (d:∀G,b G (st m)=r) {f:Nat} (a:m<f):aG b f (st 0)=r:=by
 have c:∀(n i f:Nat),i+n=m->n<f->aG b f (st i)=r:=by
  intro n
  induction n with
  |zero=>
   intro i f e a;obtain⟨f,rfl⟩:∃g,f=g+1:=⟨f-1,by omega⟩;obtain rfl:i=m:=by omega
   rw[aF,d]
  |succ n ih=>
   intro i f e a;obtain⟨f,rfl⟩:∃g,f=g+1:=⟨f-1,by omega⟩;rw[aF,h _ i (by omega)];exact ih (i+1) f (by omega) (by omega)
 exact c m 0 f (by omega) a
def i5 {A R:Type} {b:(A->Option R)->A->Option R} (st:Nat->A) (m:Nat) (q:Nat->Bool) (rf:Nat->Option R) {r:Option R} (h:∀G i,i<m->b G (st i)=if q i=true then rf i else G (st (i+1))) (p:∀G,b G (st m)=r) {f:Nat} (k:m<f):(∃i,i<m/\q i=true/\aG b f (st 0)=rf i)\/((∀i,i<m->q i=false)/\aG b f (st 0)=r):=by
 have l:∀(n i f:Nat),i+n=m->n<f->(∃j,i<=j/\j<m/\q j=true/\aG b f (st i)=rf j)\/((∀j,i<=j->j<m->q j=false)/\aG b f (st i)=r):=by
  intro n
  induction n with
  |zero=>
   intro i f s k;obtain⟨f,rfl⟩:∃g,f=g+1:=⟨f-1,by omega⟩;obtain rfl:i=m:=by omega
   exact .inr ⟨λj c a=>by omega,by rw[aF,p]⟩
  |succ n ih=>
   intro i f s k;obtain⟨f,rfl⟩:∃g,f=g+1:=⟨f-1,by omega⟩;rw[aF,h _ i (by omega)]
   cases hq:q i with
   |true=>exact .inl ⟨i,a1l _,by omega,hq,by simp⟩
   |false=>
    simp only[a0r,a1y];rcases ih (i+1) f (by omega) (by omega)with⟨j,c,a,e,d⟩|⟨c,a⟩
    ·exact .inl ⟨j,by omega,a,e,d⟩
    ·refine .inr ⟨λj e d=> ?_,a⟩
     by_cases o:j=i
     ·rw[o];exact hq
     ·exact c j (by omega) d
 rcases l m 0 f (by omega) k with⟨j,_,a,e,d⟩|⟨c,a⟩
 ·exact .inl ⟨j,a,e,d⟩
 ·exact .inr ⟨λj o=>c j (by omega) o,a⟩
def gl {A R α:Type} {b:(A->Option R)->A->Option R} (st:Nat->A) (l:List α) (p:α->Bool) {rf r:Option R} (h:∀G i (a:i<l.length),b G (st i)=if p l[i]=true then rf else G (st (i+1))) (g:∀G,b G (st l.length)=r) {f:Nat} (j:l.length<f):aG b f (st 0)=if l.any p=true then rf else r:=by
 rcases i5 st l.length (λi=>if a:i<l.length then p l[i]else false) (λ_=>rf) (r:=r) (λG i a=>by simp only[a6x a];exact h G i a) g j with⟨i,a,d,e⟩|⟨d,e⟩
 ·simp only[a6x a]at d
  have c:l.any p=true:=a3m.2 ⟨l[i],a0h _,d⟩;rw[e,a0e c]
 ·have c:¬l.any p=true:=by
   intro c;obtain⟨x,k,m⟩:=a3m.1 c;obtain⟨i,a,rfl⟩:=a2f.1 k;have:=d i a;simp only[a6x a]at this;rw[m]at this
   cases this
  rw[e,a0c c]
def eu {A α β:Type} {b:(A->Option ((Int×Unit)×β))->A->Option ((Int×Unit)×β)} (st:Nat->A) (l:List α) (p:α->Bool) {o:β} (h:∀G i (a:i<l.length),b G (st i)=if p l[i]=true then some (((i:Int),()),o)else G (st (i+1))) (g:∀G,b G (st l.length)=some ((-1,()),o)) {f:Nat} (j:l.length<f):∃n:Int,aG b f (st 0)=some ((n,()),o)/\decide (n>=0)=l.any p:=by
 rcases i5 st l.length (λi=>if a:i<l.length then p l[i]else false) (λi=>some (((i:Int),()),o)) (r:=some ((-1,()),o)) (λG i a=>by simp only[a6x a];exact h G i a) g j with⟨i,a,d,e⟩|⟨d,e⟩
 ·simp only[a6x a]at d
  refine⟨i,e,?_⟩;have c:l.any p=true:=a3m.2 ⟨l[i],a0h _,d⟩;rw[c];simp
 ·refine⟨-1,e,?_⟩
  have c:l.any p=false:=by
   cases c:l.any p with
   |false=>rfl
   |true=>
    obtain⟨x,k,m⟩:=a3m.1 c;obtain⟨i,a,rfl⟩:=a2f.1 k;have:=d i a;simp only[a6x a]at this;rw[m]at this
    cases this
  rw[c];simp
def qc {A R:Type} {b:(A->Option R)->A->Option R} (st:Nat->A) (m:Nat) (q:Nat->Bool) {rf r:Option R} (h:∀G i,i<m->b G (st i)=if q i=true then rf else G (st (i+1))) (g:∀G,b G (st m)=r) {f:Nat} (j:m<f):aG b f (st 0)=if(List.range m).any q=true then rf else r:=by
 rcases i5 st m q (λ_=>rf) (r:=r) h g j with⟨i,a,c,e⟩|⟨c,e⟩
 ·rw[e,a0e (a3m.2 ⟨i,a2h.2 a,c⟩)]
 ·rw[e,a0c]
  intro k;obtain⟨i,a,d⟩:=a3m.1 k;rw[c i (a2h.1 a)]at d
  cases d
def au {i:Nat} (h:i<4611686018427387904):wrap .i64 ((i:Int)+1)=((i+1:Nat):Int):=by
 rw[am (by omega) (by omega)];omega
def MY {α:Type} (a:List α) (z:α) {i:Nat} (b:i<a.length):(a.take i++List.replicate (a.length-i) z).set i a[i]=a.take (i+1)++List.replicate (a.length-(i+1)) z:=by
 have e:a.length-i=(a.length-(i+1))+1:=by omega
 rw[a8j _ _ (by simp;omega),e,List.replicate_succ];simp only[a1m,a6v (Nat.le_of_lt b),a7e,a6i];rw[<-a3j b,a1r];rfl
def MZ {α:Type} (a:List α) (z:α) {i:Nat} (b:i<a.length):(a.take i++List.replicate (a.length-i) z)[i]?=some z:=by
 rw[a0w (by simp;omega)];simp only[a1m,a6v (Nat.le_of_lt b),a7e];rw[a5h];simp;omega
def iG {α:Type} (l:List α) (q:α->Bool):(l.any λx=> !q x)= !l.all q:=by rw[a6j]
def vq {α:Type} (m:Option α) (Q:α->Prop):Prop:=∃x,m=some x/\Q x
namespace vq
variable {α β:Type} {k:Nat} {Q R:α->Prop}
def ret {x:α} (h:Q x):vq (some x) Q:=⟨x,rfl,h⟩
def mono {m:Option α} (h:vq m Q) (a:∀x,Q x->R x):vq m R:=by
 obtain⟨x,e,b⟩:=h;exact⟨x,e,a x b⟩
def bd {m:Option β} {f:β->Option α} {P:β->Prop} (h:vq m P) (a:∀x,P x->vq (f x) Q):vq (bd k m f) Q:=by
 obtain⟨x,e,b⟩:=h;rw[e,aa];exact a x b
def bind {m:Option β} {f:β->Option α} {P:β->Prop} (h:vq m P) (a:∀x,P x->vq (f x) Q):vq (m.bind f) Q:=by
 obtain⟨x,e,b⟩:=h;rw[e];exact a x b
def br {c:Bool} {x y:Option α} (a:c=true->vq x Q) (b:c=false->vq y Q):vq (br k c x y) Q:=by
 cases c with
 |true=>rw[ah];exact a rfl
 |false=>rw[af];exact b rfl
def dec {c:Prop} [Decidable c] {x y:Option α} (a:c->vq x Q) (b:¬c->vq y Q):vq (Go.Pev.br k (decide c) x y) Q:=by
 rw[ak];by_cases h:c
 ·rw[a0e h];exact a h
 ·rw[a0c h];exact b h
def chk {c:Prop} [Decidable c] {x:Option α} (h:c) (a:vq x Q):vq (Go.Pev.br k (decide c) x none) Q:=dec (λ_=>a) λn=>absurd h n
def jn {f:β->Option α} {y:β} (h:vq (f y) Q):vq (Go.Pev.jn k f y) Q:=by
 rw[mZ];exact h
def loop {A:Type} {b:(A->Option α)->A->Option α} (J:A->Prop) (μ:A->Nat) (h:∀G x,J x->(∀y,J y->μ y<μ x->vq (G y) Q)->vq (b G x) Q):∀(f:Nat) (x:A),J x->μ x<f->vq (aG b f x) Q
 |0,x,_,hf=>absurd hf (Nat.not_lt_zero _)
 |f+1,x,hx,hf=>by
  rw[aF];exact h _ x hx λy a c=>loop J μ h f y a (by omega)
end vq
end Go.Pev
section
namespace Go.Pev.F
def ay (n:Int):Prop:= -9223372036854775808<=n/\n<=9223372036854775807
def gM (n:Int):Int×Int:=if n< -9223372036854775808 then(0,-1)else if 9223372036854775807<n then(0,1)else(n,0)
def d8 (a b:Int):Int×Int:=if b=0 then(0,0)else gM (a.tdiv b)
def EG (a b:Int):Int:=if b=0 then 0 else a.tmod b
def i6 (n:Int):ay (gM n).1:=by
 unfold gM ay;split
 ·simp
 ·split
  ·simp
  ·simp only;omega
def CD (k:Nat) (b:Bool):MC k (b,())=some ((cond b (-1) 1,()),((),())):=by
 unfold MC
 cases b<;>simp
def Hf (k:Nat) {a b:Int} (f:ay a) (g:ay b):Jm k (a,b,())=some (((gM (a+b)).1,(gM (a+b)).2,()),((),(),())):=by
 obtain⟨h,a1⟩:=f;obtain⟨i,j⟩:=g;unfold Jm gM;simp only[ak];by_cases e:b>0
 ·have d:¬b<0:=by omega
  rw[a0e e,a0c d,am (n:=9223372036854775807-b) (by omega) (by omega)];simp only[a0d,ak];by_cases c:a>9223372036854775807-b
  ·rw[a0e c,a0c (by omega),a0e (by omega)]
  ·rw[a0c c,a0c (by omega),a0c (by omega),af,am (n:=a+b) (by omega) (by omega)]
 ·rw[a0c e]
  simp only[a0d,af];by_cases d:b<0
  ·rw[a0e d,am (n:= -9223372036854775808-b) (by omega) (by omega)]
   simp only[a0d,ak];by_cases c:a< -9223372036854775808-b
   ·rw[a0e c,a0e (by omega)]
   ·rw[a0c c,a0c (by omega),a0c (by omega),am (n:=a+b) (by omega) (by omega)]
  ·rw[a0c d]
   simp only[a0d,af];rw[a0c (by omega),a0c (by omega),am (n:=a+b) (by omega) (by omega)]
def Hg (k:Nat) {a b:Int} (f:ay a) (g:ay b):GX k (a,b,())=some (((gM (a+b)).1,(gM (a+b)).2,()),((),(),())):=by
 obtain⟨h,a1⟩:=f;obtain⟨i,j⟩:=g;unfold GX gM;simp only[ak,CD,aa];by_cases e:b>0
 ·have c:¬b<0:=by omega
  rw[a0e e,a0c c,am (n:=9223372036854775807-b) (by omega) (by omega)];simp only[a0i c];by_cases d:a>9223372036854775807-b
  ·rw[a0e d,a0c (by omega),a0e (by omega)];simp
  ·rw[a0c d,a0c (by omega),a0c (by omega)]
   simp only[a0d,af];rw[am (n:=a+b) (by omega) (by omega)]
 ·rw[a0c e]
  by_cases c:b<0
  ·rw[a0e c,am (n:= -9223372036854775808-b) (by omega) (by omega)]
   simp only[a0d,ak,a0b c];by_cases d:a< -9223372036854775808-b
   ·rw[a0e d,a0e (by omega)];simp
   ·rw[a0c d,a0c (by omega),a0c (by omega),am (n:=a+b) (by omega) (by omega)]
  ·rw[a0c c]
   simp only[a0d,af];rw[a0c (by omega),a0c (by omega),am (n:=a+b) (by omega) (by omega)]
def xS (k:Nat) {a b:Int} (f:ay a) (g:ay b):Ee k (a,b,())=some (((gM (a-b)).1,(gM (a-b)).2,()),((),(),())):=by
 obtain⟨h,a1⟩:=f;obtain⟨i,j⟩:=g;unfold Ee gM;simp only[ak];by_cases e:b<0
 ·have d:¬b>0:=by omega
  rw[a0e e,a0c d,am (n:=9223372036854775807+b) (by omega) (by omega)];simp only[a0d,ak];by_cases c:a>9223372036854775807+b
  ·rw[a0e c,a0c (by omega),a0e (by omega)]
  ·rw[a0c c,a0c (by omega),a0c (by omega),af,am (n:=a-b) (by omega) (by omega)]
 ·rw[a0c e]
  simp only[a0d,af];by_cases d:b>0
  ·rw[a0e d,am (n:= -9223372036854775808+b) (by omega) (by omega)]
   simp only[a0d,ak];by_cases c:a< -9223372036854775808+b
   ·rw[a0e c,a0e (by omega)]
   ·rw[a0c c,a0c (by omega),a0c (by omega),am (n:=a-b) (by omega) (by omega)]
  ·rw[a0c d]
   simp only[a0d,af];rw[a0c (by omega),a0c (by omega),am (n:=a-b) (by omega) (by omega)]
def Hh (k:Nat) {a b:Int} (f:ay a) (g:ay b):GW k (a,b,())=some (((gM (a-b)).1,(gM (a-b)).2,()),((),(),())):=by
 obtain⟨h,a1⟩:=f;obtain⟨i,j⟩:=g;unfold GW gM;simp only[ak,CD,aa];by_cases e:b<0
 ·have c:¬b>0:=by omega
  rw[a0e e,a0c c,am (n:=9223372036854775807+b) (by omega) (by omega)];simp only[a0i c];by_cases d:a>9223372036854775807+b
  ·rw[a0e d,a0c (by omega),a0e (by omega)];simp
  ·rw[a0c d,a0c (by omega),a0c (by omega)]
   simp only[a0d,af];rw[am (n:=a-b) (by omega) (by omega)]
 ·rw[a0c e]
  by_cases c:b>0
  ·rw[a0e c,am (n:= -9223372036854775808+b) (by omega) (by omega)]
   simp only[a0d,ak,a0b c];by_cases d:a< -9223372036854775808+b
   ·rw[a0e d,a0e (by omega)];simp
   ·rw[a0c d,a0c (by omega),a0c (by omega),am (n:=a-b) (by omega) (by omega)]
  ·rw[a0c c]
   simp only[a0d,af];rw[a0c (by omega),a0c (by omega),am (n:=a-b) (by omega) (by omega)]
def cQ (a:Int):Int:=if a<0 then-a else a
def oV (a:Int):0<=cQ a:=by unfold cQ;split<;>omega
def Is {a:Int} (h:ay a):cQ a<=9223372036854775808:=by
 obtain⟨b,c⟩:=h;unfold cQ;split<;>omega
def mE (k:Nat) {a:Int} (h:ay a):LF k (a,())=some ((cQ a,()),((),())):=by
 obtain⟨c,d⟩:=h;unfold LF cQ;simp only[ak];by_cases b:a<0
 ·rw[a0e b,a0e b,q5 c b]
  have:wrap .u64 (0-(a+18446744073709551616))= -a:=by
   rw[IntKind.wrap_u64];omega
  rw[this]
 ·rw[a0c b,a0c b,iF (by omega) (by omega)]
def mF (k:Nat) {a:Int} (h:ay a):zJ k (a,())=some ((cQ a,()),((),())):=by
 obtain⟨c,d⟩:=h;unfold zJ cQ;simp only[ak];by_cases b:a<0
 ·rw[a0e b,a0e b,q5 c b]
  have:wrap .u64 (0-(a+18446744073709551616))= -a:=by
   rw[IntKind.wrap_u64];omega
  rw[this]
 ·rw[a0c b,a0c b,iF (by omega) (by omega)]
def vt (a b:Int):a*b=if(decide (a<0)==decide (b<0))=true then cQ a*cQ b else-(cQ a*cQ b):=by
 unfold cQ;by_cases c:a<0<;>by_cases d:b<0<;>simp[c,d,Int.neg_mul,Int.mul_neg]
def Hi (k:Nat) {a b:Int} (t:ay a) (u:ay b):Jn k (a,b,())=some (((gM (a*b)).1,(gM (a*b)).2,()),((),(),())):=by
 unfold Jn;by_cases g:a=0
 ·subst g
  simp[gM]
 have o:(a==0)=false:=by simpa using g
 by_cases q:b=0
 ·subst q
  simp[gM,o]
 have v:(b==0)=false:=by simpa using q
 simp only[o,v,af,a0d,mE k t,mE k u,aa];have z:0<cQ a:=by unfold cQ;split<;>omega
 have w:0<cQ b:=by unfold cQ;split<;>omega
 have x:(!decide (cQ b=0))=true:=by
  have:¬cQ b=0:=by omega
  rw[a0i this];rfl
 have d:=vt a b;have f:∀M:Int,0<=M->M<=9223372036854775808->(cQ a>wrap .u64 (M.tdiv (cQ b))↔M<cQ a*cQ b):=by
  intro M i g;rw[Int.tdiv_eq_ediv_of_nonneg i];have y:0<=M/cQ b:=Int.ediv_nonneg i (by omega);have A:M/cQ b<=M:=Int.ediv_le_self _ i;rw[iF y (by omega)];exact Int.ediv_lt_iff_lt_mul w
 have j:=f 9223372036854775808 (by omega) (by omega);have l:=f 9223372036854775807 (by omega) (by omega);rw[x];simp only[ah,ak]
 generalize cQ a*cQ b=p at d j l
 generalize r:(decide (a<0)==decide (b<0))=s at d⊢
 rw[d]
 cases s with
 |true=>
  simp only[a0j,af,a2c];have B:0<p\/p<=0:=by omega
  by_cases c:cQ a>wrap .u64 ((9223372036854775807:Int).tdiv (cQ b))
  ·have:=l.1 c
   simp only[a0e c,a0d,af,gM];rw[a0c (by omega),a0e (by omega)]
  ·have:=λh=>c (l.2 h)
   have m:0<=p:=by
    have:=a8q (oV a) (oV b);have e:=vt a b;rw[r,a0e rfl]at e;rw[<-d.symm.trans e]at this;simpa using this
   simp only[a0c c,a0d,af,gM];rw[a0c (by omega),a0c (by omega),am (n:=p) (by omega) (by omega)]
 |false=>
  have m:0<=p:=by
   have:=a8q (oV a) (oV b);have e:=vt a b;rw[r,a0c (by simp)]at e;rw[a0c (by simp)]at d;omega
  simp only[a0v,ah,a0r,a1y];by_cases c:cQ a>wrap .u64 ((9223372036854775808:Int).tdiv (cQ b))
  ·have:=j.1 c
   simp only[a0e c,a0d,ah,gM];rw[a0e (by omega)]
  ·have:=λh=>c (j.2 h)
   simp only[a0c c,a0d,af,gM];rw[a0c (by omega),a0c (by omega),am (n:= -p) (by omega) (by omega)]
def Hj (k:Nat) {a b:Int} (u:ay a) (v:ay b):GY k (a,b,())=some (((gM (a*b)).1,(gM (a*b)).2,()),((),(),())):=by
 have w:=oV a;have x:=Is u;have i:=oV b;have y:=Is v;have j:=vt a b;have l:0<=cQ a*cQ b:=a8q w i;have m:cQ a*cQ b<=9223372036854775808*9223372036854775808:=Int.mul_le_mul x y i (by omega);have d:Lb.Mul64 k (cQ a,cQ b,())=some ((cQ a*cQ b/18446744073709551616,cQ a*cQ b % 18446744073709551616,()),((),(),())):=by
  simp only[Lb.Mul64];rw[a0e ⟨⟨w,by omega⟩,i,by omega⟩]
 unfold GY;simp only[mF k u,mF k v,aa,d,CD]
 generalize cQ a*cQ b=p at j l m
 generalize (decide (a<0)==decide (b<0))=s at j
 rw[j];have z:wrap .u64 ((9223372036854775807:Int)+1)=9223372036854775808:=by rw[iF (by omega) (by omega)];rfl
 rw[z];have f:=Int.mul_ediv_add_emod p 18446744073709551616;have o:=Int.emod_nonneg p (show(18446744073709551616:Int)≠0 by omega);have t:=Int.emod_lt_of_pos p (show(0:Int)<18446744073709551616 by omega)
 generalize p/18446744073709551616=q at f
 generalize p % 18446744073709551616=r at f o t
 simp only[ak]
 cases s with
 |true=>
  simp only[a0j,af,a2c,gM,a1q];by_cases g:q>0
  ·simp only[a0e g,a0d,ah]
   rw[a0c (by omega),a0e (by omega)]
  ·simp only[a0c g,a0d,ak]
   have c:q=0:=by omega
   subst c;by_cases h:r>9223372036854775807
   ·rw[a0e h,a0c (by omega),a0e (by omega)]
   ·rw[a0c h,a0c (by omega),a0c (by omega),am (n:=r) (by omega) (by omega)]
    have:r=p:=by omega
    rw[this]
 |false=>
  simp only[a0v,ah,a0r,a1y,gM,a0z];by_cases g:q>0
  ·simp only[a0e g,a0d,ah]
   rw[a0e (by omega)]
  ·simp only[a0c g,a0d,ak]
   have c:q=0:=by omega
   subst c;by_cases h:r>9223372036854775808
   ·rw[a0e h,a0e (by omega)]
   ·rw[a0c h,a0c (by omega),a0c (by omega)]
    have e:wrap .i64 (wrap .u64 (0-r))= -p:=by
     have:r=p:=by omega
     subst this;rw[IntKind.wrap_u64,IntKind.wrap_i64];omega
    rw[e]
def si {a b:Int} (d:ay a) (g:b≠0) (i:¬b= -1):ay (a.tdiv b):=by
 obtain⟨j,a1⟩:=d;have h:=Int.natAbs_tdiv_le_natAbs a b;by_cases f:a= -9223372036854775808
 ·subst f
  have c:2<=b.natAbs\/b=1:=by omega
  rcases c with c|rfl
  ·have e:((-9223372036854775808:Int).tdiv b).natAbs=(9223372036854775808:Nat)/b.natAbs:=by
    rw[Int.natAbs_tdiv];rfl
   have:(9223372036854775808:Nat)/b.natAbs<=4611686018427387904:=by
    calc (9223372036854775808:Nat)/b.natAbs<=9223372036854775808/2:=Nat.div_le_div_left c (by omega)
     _=4611686018427387904:=rfl
   unfold ay;omega
  ·rw[a8x];unfold ay;omega
 ·unfold ay;omega
def Hk (k:Nat) {a b:Int} (e:ay a):GZ k (a,b,())=some (((d8 a b).1,(d8 a b).2,()),((),(),())):=by
 unfold GZ d8;by_cases c:b=0
 ·subst c;simp
 have j:(b==0)=false:=by simpa using c
 have l:(!decide (b=0))=true:=by rw[a0i c];rfl
 dsimp only;rw[j,af,a0c c,l,ah];by_cases f:a= -9223372036854775808
 ·have g:(a== -9223372036854775808)=true:=by simpa using f
  rw[g,ah];simp only[a0d];by_cases d:b= -1
  ·subst d;subst f
   rw[show((-1:Int)== -1)=true from rfl,ah];rfl
  ·have m:(b== -1)=false:=by simpa using d
   obtain⟨h,i⟩:=si e c d;rw[m,af,am h i,gM,a0c (by omega),a0c (by omega)]
 ·have g:(a== -9223372036854775808)=false:=by simpa using f
  rw[g,af];simp only[a0d,af];have n:ay (a.tdiv b):=by
   by_cases d:b= -1
   ·subst d
    obtain⟨o,a1⟩:=e;have:a.tdiv (-1)= -a:=by rw[Int.tdiv_neg,a8x]
    rw[this];unfold ay;omega
   ·exact si e c d
  obtain⟨h,i⟩:=n;rw[am h i,gM,a0c (by omega),a0c (by omega)]
def Hl (k:Nat) {a b:Int} (f:ay a):Jo k (a,b,())=some (((d8 a b).1,(d8 a b).2,()),((),(),())):=by
 unfold Jo d8;by_cases c:b=0
 ·subst c;simp
 have g:(b==0)=false:=by simpa using c
 have h:(!decide (b=0))=true:=by rw[a0i c];rfl
 dsimp only;rw[g,af,a0c c,h,ah];by_cases d:b= -1
 ·subst d
  have e:((-1:Int)== -1)=true:=rfl;have i:a.tdiv (-1)=0-a:=by rw[Int.tdiv_neg,a8x];omega
  rw[e,ah,xS k (a:=0) ⟨by omega,by omega⟩ f,aa,i]
 ·have e:(b== -1)=false:=by simpa using d
  obtain⟨j,l⟩:=si f c d;rw[e,af,am j l,gM,a0c (by omega),a0c (by omega)]
def It (a:Int):a.tmod (-1)=0:=by rw[Int.tmod_neg,Int.tmod_one]
def Hm (k:Nat) (a b:Int):GP k (a,b,())=some ((EG a b,()),((),(),())):=by
 unfold GP EG;by_cases c:b=0
 ·subst c;simp
 have e:(b==0)=false:=by simpa using c
 have f:(!decide (b=0))=true:=by rw[a0i c];rfl
 dsimp only;rw[e,af,a0c c,f,ah];simp only[a0d];by_cases d:b= -1
 ·subst d;rw[It];simp[ah]
 ·have g:(b== -1)=false:=by simpa using d
  rw[g,af]
def Hn (k:Nat) (a b:Int):Jx k (a,b,())=some ((EG a b,()),((),(),())):=by
 unfold Jx EG;by_cases c:b=0
 ·subst c;simp
 have e:(b==0)=false:=by simpa using c
 have f:(!decide (b=0))=true:=by rw[a0i c];rfl
 dsimp only;rw[e,af,a0c c,f,ah];simp only[a0d];by_cases d:b= -1
 ·subst d;rw[It];simp[ah]
 ·have g:(b== -1)=false:=by simpa using d
  rw[g,af]
def AZ {a b:Int} (c:ay a):ay (EG a b):=by
 obtain⟨f,a1⟩:=c;unfold EG ay;split
 ·omega
 ·have g:(a.tmod b).natAbs<=a.natAbs:=by rw[Int.natAbs_tmod];exact Nat.mod_le _ _
  by_cases d:0<=a
  ·have e:=Int.tmod_nonneg b d
   omega
  ·have e:a.tmod b= -((-a).tmod b):=by rw[Int.neg_tmod];omega
   have h:=Int.tmod_nonneg b (show 0<= -a by omega);omega
abbrev eQ:=List (List UInt8)
abbrev pm:=List UInt8×Int×Unit
abbrev ar:=eQ×eQ×List pm×Unit
abbrev bo:=Int×Int×Unit
abbrev aK:=Bool×List bo×List bo×Unit
structure fC (d:ar):Prop where
 n0:d.1.length<=1048576
 s0:∀x∈d.1,x.length<=1048576
 n1:d.2.1.length<=1048576
 s1:∀x∈d.2.1,x.length<=1048576
 n2:d.2.2.1.length<=1048576
 s2:∀x∈d.2.2.1,x.1.length<=1048576
abbrev Pq:Kd:= .cons (.sl false .str) (.cons (.sl false .str) (.cons nj .nil))
def keys:eQ:=[[118,97,114],[102,108,97,103],[97,114,114,97,121],[105,102],[102,111,114,107],[101,108,115,101],[101,110,100],[119,104,105,108,101],[117,110,114,111,108,108],[97,115,115,101,114,116],[97,115,115,117,109,101],[105,110,112,117,116],[115,112,108,105,116],[109,101,114,103,101],[116,114,117,101],[102,97,108,115,101]]
def eN (b:UInt8):Bool:=decide (97<=b.toNat/\b.toNat<=122)
def qd (s:List UInt8):Bool:=s.all eN&& (decide (1<=s.length/\s.length<=8)&& !keys.contains s)
def M0 (k:Nat) (e:1048576<k) (s:List UInt8):wU k (s,())=some ((keys.contains s,()),((),())):=by
 have h:=gl (b:=wU.l0 k) (λi=>(s,keys,(i:Int),())) keys (λx=>x==s) (rf:=some ((true,()),((),()))) (r:=some ((false,()),((),()))) (λG i c=>by
  have a:((i:Int)<(keys.length:Int)):=by omega
  have d:(0:Int)<=(i:Int)/\((i:Int)<(keys.length:Int)):=by omega
  have g:keys.length=16:=rfl;simp only[wU.l0,ak,a0e a,a0e d,a0g,a0a c,aa];rw[au (by omega)]
  cases h:(keys[i]==s)<;>simp) (λG=>by
  have a:¬((keys.length:Int)<(keys.length:Int)):=by omega
  simp only[wU.l0,ak,a0c a]) (f:=k) (by show 16<k;omega)
 unfold wU;refine Eq.trans h ?_
 rw[a7s]
 cases keys.contains s<;>rfl
def KF (k:Nat) (g:1048576<k) (s:List UInt8) (m:s.length<=1048576):wV k (s,())=some ((qd s,()),((),())):=by
 have h:=gl (b:=wV.l0 k) (λi=>(s,(i:Int),())) s (λb=> !eN b) (rf:=some ((false,()),((),()))) (r:=some ((decide (1<=s.length/\s.length<=8)&& !keys.contains s,()),((),()))) (λG i j=>by
  have d:((i:Int)<(s.length:Int)):=by omega
  have l:(0:Int)<=(i:Int):=by omega
  simp only[wV.l0,ak,a0e d,a0e l,a0g,a0a j,aa];rw[au (by omega)];by_cases c1:((s[i].toNat:Int)<97)
  ·have:eN s[i]=false:=by simp[eN];omega
   simp[a0e c1,this]
  ·rw[a0c c1]
   by_cases c2:((s[i].toNat:Int)>122)
   ·have:eN s[i]=false:=by simp[eN];omega
    have a:decide ((s[i].toNat:Int)>122)=true:=a0b c2;simp only[a0d,a,ah,this,a0v,a2c]
   ·have:eN s[i]=true:=by simp[eN];omega
    have a:decide ((s[i].toNat:Int)>122)=false:=a0i c2;simp only[a0d,a,af,this,a0j,a0r,a1y]) (λG=>by
  have d:¬((s.length:Int)<(s.length:Int)):=by omega
  simp only[wV.l0,ak,a0c d,jP,M0 k g,aa];by_cases c:1<=s.length/\s.length<=8
  ·have e:(1:Int)<=(s.length:Int)/\(s.length:Int)<=8:=by omega
   simp only[a0e e,a0d,a0b c,a1i]
  ·have e:¬((1:Int)<=(s.length:Int)/\(s.length:Int)<=8):=by omega
   simp only[a0c e,a0d,a0i c,a3n]) (f:=k) (by omega)
 unfold wV;refine Eq.trans h ?_
 unfold qd;rw[show s.any (λb=> !eN b)= !s.all eN by rw[a6j]]
 cases s.all eN<;>simp
def Ho (k:Nat) (l:eQ) (v:List UInt8) (g:l.length<=4194304) (j:4194304<k):∃n:Int,zG k (l,v,())=some ((n,()),((),(),()))/\decide (n>=0)=l.contains v:=by
 obtain⟨n,c,a⟩:=eu (b:=zG.l0 k) (λi=>(l,v,(i:Int),())) l (λx=>x==v) (o:=((),(),())) (λG i d=>by
  have a:((i:Int)<(l.length:Int)):=by omega
  have e:(0:Int)<=(i:Int):=by omega
  simp only[zG.l0,ak,a0e a,a0e e,a0g,a0a d,aa];rw[au (by omega)]
  cases h:(l[i]==v)<;>simp) (λG=>by
  have a:¬((l.length:Int)<(l.length:Int)):=by omega
  simp only[zG.l0,ak,a0c a]) (f:=k) (by omega)
 refine⟨n,c,?_⟩;rw[a,a7s]
def lh (k:Nat) (l:eQ) (v:List UInt8) (j:l.length<=4194304) (m:4194304<k):Eg k (l,v,())=some ((l.contains v,()),((),(),())):=by
 obtain⟨n,d,a⟩:=eu (b:=wY.l0 k) (λi=>(l,v,(l.length:Int),(i:Int),())) l (λx=>x==v) (o:=((),(),())) (λG i e=>by
  have a:((i:Int)<(l.length:Int)):=by omega
  have g:(0:Int)<=(i:Int):=by omega
  simp only[wY.l0,ak,a0e a,a0e g,a0g,a0a e,aa];rw[au (by omega),show(v==l[i])=(l[i]==v)from BEq.comm]
  cases h:(l[i]==v)<;>simp) (λG=>by
  have a:¬((l.length:Int)<(l.length:Int)):=by omega
  simp only[wY.l0,ak,a0c a]) (f:=k) (by omega)
 unfold Eg wY;have c:aG (wY.l0 k) k (l,v,(l.length:Int),0,())=some ((n,()),((),(),())):=d;simp only[c,aa];rw[a,a7s]
def KG (k:Nat) (a:4194304<k) (s:List UInt8):Jp k (s,())=some ((keys.contains s,()),((),())):=by
 unfold Jp;have h:Lb.Fields k ([118,97,114,32,102,108,97,103,32,97,114,114,97,121,32,105,102,32,102,111,114,107,32,101,108,115,101,32,101,110,100,32,119,104,105,108,101,32,117,110,114,111,108,108,32,97,115,115,101,114,116,32,97,115,115,117,109,101,32,105,110,112,117,116,32,115,112,108,105,116,32,109,101,114,103,101,32,116,114,117,101,32,102,97,108,115,101],())=some ((keys,()),((),())):=by
  unfold Lb.Fields;rw[a0e (by decide+kernel)];have:Go.Lib.fields [118,97,114,32,102,108,97,103,32,97,114,114,97,121,32,105,102,32,102,111,114,107,32,101,108,115,101,32,101,110,100,32,119,104,105,108,101,32,117,110,114,111,108,108,32,97,115,115,101,114,116,32,97,115,115,117,109,101,32,105,110,112,117,116,32,115,112,108,105,116,32,109,101,114,103,101,32,116,114,117,101,32,102,97,108,115,101]=keys:=by decide+kernel
  rw[this]
 simp only[h,aa];rw[lh k keys s (by decide) a];simp
def KH (k:Nat) (g:4194304<k) (s:List UInt8) (m:s.length<=1048576):wZ k (s,())=some ((qd s,()),((),())):=by
 have h:=gl (b:=wZ.l0 k) (λi=>(s,(s.length:Int),(i:Int),())) s (λb=> !eN b) (rf:=some ((false,()),((),()))) (r:=some ((decide (1<=s.length/\s.length<=8)&& !keys.contains s,()),((),()))) (λG i j=>by
  have d:((i:Int)<(s.length:Int)):=by omega
  have l:(0:Int)<=(i:Int):=by omega
  simp only[wZ.l0,Mu,ak,a0e d,a0e l,a0g,a0a j,aa];rw[au (by omega)];by_cases c1:((s[i].toNat:Int)>=97)
  ·rw[a0e c1]
   by_cases c2:((s[i].toNat:Int)<=122)
   ·have:eN s[i]=true:=by simp[eN];omega
    have a:decide ((s[i].toNat:Int)<=122)=true:=a0b c2;simp only[a0d,a,aa,af,this,a0j,a0r,a1y]
   ·have:eN s[i]=false:=by simp[eN];omega
    have a:decide ((s[i].toNat:Int)<=122)=false:=a0i c2;simp only[a0d,a,aa,ah,this,a0v,a2c]
  ·rw[a0c c1]
   have:eN s[i]=false:=by simp[eN];omega
   simp only[a0d,aa,ah,this,a0v,a2c]) (λG=>by
  have d:¬((s.length:Int)<(s.length:Int)):=by omega
  simp only[wZ.l0,ak,a0c d,dC,KG k g,aa];by_cases c:1<=s.length/\s.length<=8
  ·have e:(1:Int)<=(s.length:Int)/\(s.length:Int)<=8:=by omega
   simp only[a0e e,a0d,a0b c,a1i]
  ·have e:¬((1:Int)<=(s.length:Int)/\(s.length:Int)<=8):=by omega
   simp only[a0c e,a0d,a0i c,a3n]) (f:=k) (by omega)
 unfold wZ;refine Eq.trans h ?_
 unfold qd;rw[show s.any (λb=> !eN b)= !s.all eN by rw[a6j]]
 cases s.all eN<;>simp
def xT (l:eQ) (i:Nat):Bool:= !qd (l.getD i [])||(l.take i).contains (l.getD i [])
def q6 (l:eQ):Bool:= !(List.range l.length).any (xT l)
def xU (l:List pm):Bool:= !l.any λa=> !decide (1<=a.2.1/\a.2.1<=16)
def cr (d:ar):eQ:=(d.1++d.2.1)++d.2.2.1.map (·.1)
def aN (d:ar):Bool:=decide (d.1.length<=5/\d.2.1.length<=3/\d.2.2.1.length<=2)&& (xU d.2.2.1&& q6 (cr d))
def pB {d:ar} (a:fC d):(cr d).length<=3145728/\∀x∈cr d,x.length<=1048576:=by
 have b:=a.n0;have c:=a.n1;have e:=a.n2;refine⟨by simp[cr];omega,λx hx=> ?_⟩;simp only[cr,a0l,a4o]at hx;rcases hx with(hx|hx)|⟨y,hy,rfl⟩
 ·exact a.s0 x hx
 ·exact a.s1 x hx
 ·exact a.s2 y hy
def KI (k:Nat) (d:4194304<k) (l:eQ) (s:l.length<=3145728) (g:∀x∈l,x.length<=1048576):aG (tT.l2 k) k (l,0,())=some ((q6 l,()),((),())):=by
 have h:=qc (b:=tT.l2 k) (λi=>(l,(i:Int),())) l.length (xT l) (rf:=some ((false,()),((),()))) (r:=some ((true,()),((),()))) (λG i c=>by
  have a:((i:Int)<(l.length:Int)):=by omega
  have j:(0:Int)<=(i:Int)/\(i:Int)<(l.length:Int):=by omega
  have m:(0:Int)<=(i:Int)/\(i:Int)<=(l.length:Int):=by omega
  have e:aQ l ((0:Int).toNat) (i-(0:Int).toNat)=l.take i:=by simp[aQ]
  obtain⟨n,o,p⟩:=Ho k (l.take i) l[i] (by simp;omega) d;have q:l.getD i []=l[i]:=by simp[List.getD,a0a c]
  simp only[tT.l2,ak,a0e a,a0e j,a0e m,a0g,a0a c,aa,KF k (by omega) l[i] (g _ (a0h _)),e,o,p];rw[au (by omega),xT,q]
  cases qd l[i]<;>cases (l.take i).contains l[i]<;>simp) (λG=>by
  have a:¬((l.length:Int)<(l.length:Int)):=by omega
  simp only[tT.l2,ak,a0c a]) (f:=k) (by omega)
 refine Eq.trans h ?_
 unfold q6
 cases (List.range l.length).any (xT l)<;>rfl
def gW (k:Nat) (l:4194304<k) (d:ar) (m:fC d):tT k (d,())=some ((aN d,()),((),())):=by
 unfold tT aN;simp only[ak];by_cases g:(d.1.length:Int)>5
 ·rw[a0e g]
  have:decide (d.1.length<=5/\d.2.1.length<=3/\d.2.2.1.length<=2)=false:=by simp;omega
  simp[this]
 rw[a0c g];by_cases c1:(d.2.1.length:Int)>3
 ·rw[a0e c1]
  have:decide (d.1.length<=5/\d.2.1.length<=3/\d.2.2.1.length<=2)=false:=by simp;omega
  simp[this]
 rw[a0c c1];by_cases c2:(d.2.2.1.length:Int)>2
 ·have:decide (d.1.length<=5/\d.2.1.length<=3/\d.2.2.1.length<=2)=false:=by simp;omega
  have c:decide ((d.2.2.1.length:Int)>2)=true:=a0b c2;simp only[a0d,c,ah,this,a3n]
 have c:decide ((d.2.2.1.length:Int)>2)=false:=a0i c2;have n:decide (d.1.length<=5/\d.2.1.length<=3/\d.2.2.1.length<=2)=true:=by simp;omega
 simp only[a0d,c,af,n,a1i];have l1:(([]:List (List UInt8)).length+d.1.length)*16<=ai:=by simp[ai];omega
 have l2:((([]:List (List UInt8))++d.1).length+d.2.1.length)*16<=ai:=by simp[ai];omega
 rw[a0e l1,a0e l2];obtain⟨o,p⟩:=pB m;have h:=gl (b:=tT.l0 k) (λi=>((d.1,d.2.1,d.2.2.1,()),((([]:List (List UInt8))++d.1)++d.2.1)++(d.2.2.1.take i).map (·.1),(i:Int),())) d.2.2.1 (λa=> !decide (1<=a.2.1/\a.2.1<=16)) (rf:=some ((false,()),((),()))) (r:=some ((q6 (cr d),()),((),()))) (λG i j=>by
  have e:((i:Int)<(d.2.2.1.length:Int)):=by omega
  have q:(0:Int)<=(i:Int):=by omega
  have s:(((([]:List (List UInt8))++d.1)++d.2.1++(d.2.2.1.take i).map (·.1)).length+([d.2.2.1[i].1]:List (List UInt8)).length)*16<=ai:=by simp[ai];omega
  simp only[tT.l0,ak,a0e e,a0e q,a0g,a0a j,aa,jP,a0e s];rw[au (by omega),<-a3j j,a3d,a1r (bs:=List.map _ _)]
  cases decide (1<=d.2.2.1[i].2.1/\d.2.2.1[i].2.1<=16)<;>simp) (λG=>by
  have e:¬((d.2.2.1.length:Int)<(d.2.2.1.length:Int)):=by omega
  simp only[tT.l0,ak,a0c e,a1f];exact KI k l (cr d) o p) (f:=k) (by omega)
 simp only[List.take_zero,a4a,a2b]at h;refine Eq.trans h ?_
 unfold xU
 cases d.2.2.1.any (λa=> !decide (1<=a.2.1/\a.2.1<=16))<;>simp
def sj {l:List eQ} {i:Nat} (a:i<l.length):(l.take (i+1)).flatten=(l.take i).flatten++l[i]:=by
 rw[<-a3j a,a4r];simp
def Iu (l:List eQ) (i:Nat):(l.take i).flatten.length<=l.flatten.length:=by
 conv=>rhs;rw[<-a3t i l,a4r,a0m]
 omega
def KJ (k:Nat) (l:List eQ) (g:l.length<k) (n:k<=4611686018427387903) (o:l.flatten.length<=4194304):Ef k (l,())=some ((l.flatten,()),((),())):=by
 unfold Ef;have a:aG (Ef.l2 k) k ([],l,(l.length:Int),0,())=some ((l.flatten,()),((),())):=by
  have h:=aR (b:=Ef.l2 k) (λi=>((l.take i).flatten,l,(l.length:Int),(i:Int),())) l.length (r:=some ((l.flatten,()),((),()))) (λG i c=>by
   have a:((i:Int)<(l.length:Int)):=by omega
   have d:(0:Int)<=(i:Int):=by omega
   have j:=Iu l (i+1);rw[sj c,a0m]at j;have f:((l.take i).flatten.length+l[i].length)*16<=ai:=by simp only[ai];omega
   simp only[Ef.l2,ak,a0e a,a0e d,a0g,a0a c,aa,a0e f];rw[au (by omega),sj c]) (λG=>by
   have a:¬((l.length:Int)<(l.length:Int)):=by omega
   simp only[Ef.l2,ak,a0c a,a1f]) g
  exact h
 have h:=aR (b:=Ef.l0 k) (λi=>(l,((l.take i).flatten.length:Int),l,(l.length:Int),(i:Int),())) l.length (r:=some ((l.flatten,()),((),()))) (λG i c=>by
  have a:((i:Int)<(l.length:Int)):=by omega
  have d:(0:Int)<=(i:Int):=by omega
  have j:=Iu l (i+1);have m:(l.take (i+1)).flatten.length=(l.take i).flatten.length+l[i].length:=by rw[sj c,a0m]
  have e:wrap .i64 (((l.take i).flatten.length:Int)+(l[i].length:Int))=((l.take (i+1)).flatten.length:Int):=by
   rw[am (by omega) (by omega),m];omega
  have f:¬(((l.take (i+1)).flatten.length:Int)<0):=by omega
  simp only[Ef.l0,ak,a0e a,a0e d,a0g,a0a c,aa,e,a0c f];rw[au (by omega)]) (λG=>by
  have d:¬((l.length:Int)<(l.length:Int)):=by omega
  have f:0<=(l.flatten.length:Int)/\(l.flatten.length:Int)*((16:Nat):Int)<=140737488355328:=by omega
  simp only[Ef.l0,ak,a0c d,a1f,Lb.slices_Grow_string_string,qQ,a0e f,aa];exact a) g
 exact h
def M1 (k:Nat) (o:4194304<k) (a:k<=4611686018427387903) (d:ar) (c:fC d):wX k (d,())=some ((cr d,()),((),())):=by
 have p:=c.n0;have q:=c.n1;have n2:=c.n2;have e:([d.1,d.2.1]:List eQ).flatten=d.1++d.2.1:=by simp
 unfold wX;have j:=KJ k [d.1,d.2.1] (by show 2<k;omega) a (by rw[e];simp;omega);rw[e]at j;simp only[j,aa];have h:=aR (b:=wX.l0 k) (λi=>((d.1++d.2.1)++(d.2.2.1.take i).map (·.1),d.2.2.1,(d.2.2.1.length:Int),(i:Int),())) d.2.2.1.length (r:=some ((cr d,()),((),()))) (λG i l=>by
  have g:((i:Int)<(d.2.2.1.length:Int)):=by omega
  have m:(0:Int)<=(i:Int):=by omega
  have n:((((d.1++d.2.1)++(d.2.2.1.take i).map (·.1)).length)+([d.2.2.1[i].1]:List (List UInt8)).length)*16<=ai:=by simp[ai];omega
  simp only[wX.l0,ak,a0e g,a0e m,a0g,a0a l,aa,a0e n];rw[au (by omega),<-a3j l,a3d,a1r (bs:=List.map _ _)];rfl) (λG=>by
  have g:¬((d.2.2.1.length:Int)<(d.2.2.1.length:Int)):=by omega
  simp only[wX.l0,ak,a0c g,a1f];rfl) (f:=k) (by omega)
 simp only[List.take_zero,a4a,a2b]at h;exact h
def CE (k:Nat) (l:List pm) (j:l.length<=1048576) (m:4194304<k):Jq k (l,(()),())=some ((xU l,()),((),(()),())):=by
 obtain⟨n,e,c⟩:=eu (b:=w7.l0 k) (λi=>(l,(((()),()),()),(l.length:Int),(i:Int),())) l (λa=> !decide (1<=a.2.1/\a.2.1<=16)) (o:=((),(((()),()),()),())) (λG i g=>by
  have c:((i:Int)<(l.length:Int)):=by omega
  have h:(0:Int)<=(i:Int):=by omega
  simp only[w7.l0,Mw,Mv,dC,ak,a0e c,a0e h,a0g,a0a g,aa];rw[au (by omega)]
  cases decide (1<=l[i].2.1/\l[i].2.1<=16)<;>simp) (λG=>by
  have c:¬((l.length:Int)<(l.length:Int)):=by omega
  simp only[w7.l0,ak,a0c c]) (f:=k) (by omega)
 unfold Jq Mx w7;have d:aG (w7.l0 k) k (l,(((()),()),()),(l.length:Int),0,())=some ((n,()),((),(((()),()),()),())):=e;simp only[d,aa,c];rfl
def zX (k:Nat) (a:4194304<k) (e:k<=4611686018427387903) (d:ar) (c:fC d):uJ k (d,())=some ((aN d,()),((),())):=by
 have n2:=c.n2;obtain⟨q,m⟩:=pB c;unfold uJ;simp only[M1 k a e d c,aa];have h:=qc (b:=uJ.l0 k) (λi=>((d.1,d.2.1,d.2.2.1,()),cr d,cr d,((cr d).length:Int),(i:Int),())) (cr d).length (xT (cr d)) (rf:=some ((false,()),((),()))) (r:=some ((decide (d.1.length<=5/\d.2.1.length<=3/\d.2.2.1.length<=2)&& xU d.2.2.1,()),((),()))) (λG i j=>by
  have g:((i:Int)<((cr d).length:Int)):=by omega
  have n:(0:Int)<=(i:Int):=by omega
  have o:(0:Int)<=(i:Int)/\(i:Int)<=((cr d).length:Int):=by omega
  have p:(cr d).getD i []=(cr d)[i]:=by simp[List.getD,a0a j]
  simp only[uJ.l0,ak,a0e g,a0e n,a0e o,a0g,a0a j,aa,KH k a (cr d)[i] (m _ (a0h _)),lh k ((cr d).take i) (cr d)[i] (by simp;omega) a];rw[au (by omega),xT,p]
  cases qd (cr d)[i]<;>cases ((cr d).take i).contains (cr d)[i]<;>simp) (λG=>by
  have g:¬(((cr d).length:Int)<((cr d).length:Int)):=by omega
  simp only[uJ.l0,ak,a0c g,CE k d.2.2.1 c.n2 a,aa];by_cases l:d.1.length<=5
  ·rw[a0e (by omega)]
   by_cases c1:d.2.1.length<=3
   ·rw[a0e (by omega)]
    by_cases c2:d.2.2.1.length<=2
    ·rw[a0e (by omega)]
     simp[l,c1,c2]
    ·rw[a0c (by omega)]
     simp[c2]
   ·rw[a0c (by omega)]
    simp[c1]
  ·rw[a0c (by omega)]
   simp[l]) (f:=k) (by omega)
 refine Eq.trans h ?_
 unfold aN q6
 cases (List.range (cr d).length).any (xT (cr d))<;>simp
structure fD (e:aK):Prop where
 n1:e.2.1.length<=1048576
 n2:e.2.2.1.length<=1048576
abbrev PM:Kd:= .cons (.int .i64) (.cons (.int .i64) .nil)
abbrev M2:Kd:= .cons .bool (.cons (.sl false PM) (.cons (.sl false PM) .nil))
def bt (a:bo):Bool:=decide (a.1<=a.2.1)
def xV (l:List bo):Bool:= !l.any λa=> !bt a
def fZ (d:ar) (e:aK):Bool:=cond e.1 (((e.2.1.length:Int)==(d.1.length:Int))&& (((e.2.2.1.length:Int)==(d.2.2.1.length:Int))&& (xV e.2.1&& xV e.2.2.1))) (((e.2.1.length:Int)==0)&& ((e.2.2.1.length:Int)==0))
def Iv (d:ar) (e:aK):Bool:=aN d&& fZ d e
def CF (k:Nat) (l:4194304<k) (d:ar) (m:fC d) (e:aK) (g:fD e):uQ k (d,e,())=some ((Iv d e,()),((),(),())):=by
 have p:=g.n1;have n2:=g.n2;unfold uQ Iv;simp only[gW k l d m,aa]
 cases hdo:aN d with
 |false=>simp
 |true=>
  simp only[a0j,af,a1i];unfold fZ
  cases he1:e.1 with
  |false=>
   simp only[a0v,ah,a1q]
   cases hz:((e.2.1.length:Int)==0)<;>simp
  |true=>
   simp only[a0j,af,a0z];unfold bne
   cases h1:((e.2.1.length:Int)==(d.1.length:Int))with
   |false=>simp
   |true=>
    simp only[a0j,af,a1i]
    cases c:((e.2.2.1.length:Int)==(d.2.2.1.length:Int))with
    |false=>simp
    |true=>
     have l1:(([]:List (Int×Int×Unit)).length+e.2.1.length)*16<=ai:=by simp[ai];omega
     have l2:((([]:List (Int×Int×Unit))++e.2.1).length+e.2.2.1.length)*16<=ai:=by simp[ai];omega
     simp only[a0j,a0d,af,a1i,FK,ak,a0e l1,a0e l2,aa];have h:=gl (b:=uQ.l0 k) (λi=>(([]++e.2.1)++e.2.2.1,(i:Int),())) (([]++e.2.1)++e.2.2.1) (λa=> !bt a) (rf:=some ((false,()),((),(),()))) (r:=some ((true,()),((),(),()))) (λG i j=>by
      have n:i<e.2.1.length+e.2.2.1.length:=by simpa using j
      have c:((i:Int)<((([]++e.2.1)++e.2.2.1).length:Int)):=by omega
      have o:0<=(i:Int)/\((i:Int)<((([]++e.2.1)++e.2.2.1).length:Int)):=by omega
      simp only[uQ.l0,z8,ak,a0e c,a0e o,a0g,a0a j,aa];rw[au (by omega),bt]
      cases decide ((([]++e.2.1)++e.2.2.1)[i].1<=(([]++e.2.1)++e.2.2.1)[i].2.1)<;>simp) (λG=>by
      have c:¬((((([]++e.2.1)++e.2.2.1).length:Nat):Int)<((([]++e.2.1)++e.2.2.1).length:Int)):=by omega
      simp only[uQ.l0,ak,a0c c]) (f:=k) (by simp;omega)
     refine Eq.trans h ?_
     unfold xV;rw[a2m,a8k]
     cases e.2.1.any (λa=> !bt a)<;>cases e.2.2.1.any (λa=> !bt a)<;>rfl
def tV (k:Nat) (l:List bo) (j:l.length<=1048576) (m:4194304<k):G7 k (l,(()),())=some ((xV l,()),((),(()),())):=by
 obtain⟨n,e,c⟩:=eu (b:=xi.l0 k) (λi=>(l,(((()),()),()),(l.length:Int),(i:Int),())) l (λa=> !bt a) (o:=((),(((()),()),()),())) (λG i g=>by
  have c:((i:Int)<(l.length:Int)):=by omega
  have h:(0:Int)<=(i:Int):=by omega
  simp only[xi.l0,MJ,MI,ak,a0e c,a0e h,a0g,a0a g,aa];rw[au (by omega),bt]
  cases decide (l[i].1<=l[i].2.1)<;>simp) (λG=>by
  have c:¬((l.length:Int)<(l.length:Int)):=by omega
  simp only[xi.l0,ak,a0c c]) (f:=k) (by omega)
 unfold G7 MK xi;have d:aG (xi.l0 k) k (l,(((()),()),()),(l.length:Int),0,())=some ((n,()),((),(((()),()),()),())):=e;simp only[d,aa,c];rfl
def M3 (k:Nat) (a:4194304<k) (d:ar) (e:aK) (b:fD e):JD k (d,e,())=some ((fZ d e,()),((),(),())):=by
 unfold JD fZ
 cases he1:e.1 with
 |false=>
  simp only[he1,a0v,ah,a1q]
  cases hz:((e.2.1.length:Int)==0)<;>simp
 |true=>
  simp only[he1,a0j,af,a0z]
  cases h1:((e.2.1.length:Int)==(d.1.length:Int))with
  |false=>simp
  |true=>
   cases h2:((e.2.2.1.length:Int)==(d.2.2.1.length:Int))with
   |false=>simp
   |true=>
    simp only[tV k _ b.n1 a,tV k _ b.n2 a,ah,aa]
    cases xV e.2.1<;>simp
abbrev ir:=Int×Int×Bool×Int×Unit
def bG (a b:bo):Bool:=bt a&& bt b
def eG (a:bo) (n:Int):Bool:=decide (a.1<=n/\n<=a.2.1)
def iH (a b:bo):Bool:=bG a b&& (decide (b.1<=a.1)&& decide (a.2.1<=b.2.1))
def eY (a b:bo):bo:=(if b.1<a.1 then b.1 else a.1,if b.2.1>a.2.1 then b.2.1 else a.2.1,())
def ie (a b:bo):bo:=(if b.1>a.1 then b.1 else a.1,if b.2.1<a.2.1 then b.2.1 else a.2.1,())
def mG (a b:bo):bo:=cond (bG a b) (eY a b) (0,0,())
def dX (a b:bo):bo×Bool×Unit:=cond (bG a b&& bt (ie a b)) (ie a b,true,()) ((0,0,()),false,())
def qe (l:List Int) (b:Int):Int:=l.foldl (λm x=>if x<=b then(if x>m then x else m)else m) (-9223372036854775808)
def oh (l:List Int) (b:Int):Int:=l.foldl (λm x=>if x>=b then(if x<m then x else m)else m) 9223372036854775807
def jQ (a b:bo) (l:List Int):bo:=cond (bG a b&& decide (l.length<=100)) (if b.1<a.1 then qe l b.1 else a.1,if b.2.1>a.2.1 then oh l b.2.1 else a.2.1,()) (0,0,())
def tW (k:Nat) (a:bo):MI k (a,())=some ((bt a,()),((),())):=rfl
def ft (k:Nat) (a:bo):z8 k (a,())=some ((bt a,()),((),())):=rfl
def fS (k:Nat) (a b:bo):vo k (a,b,())=some ((bG a b,()),((),(),())):=by
 simp only[vo,tW,aa,eA,bG]
 cases bt a<;>rfl
def mH (k:Nat) (a:bo) (n:Int):Em k (a,n,())=some ((eG a n,()),((),(),())):=by
 simp only[Em,dC,aa];rfl
def mI (k:Nat) (a:bo) (n:Int):J3 k (a,n,())=some ((eG a n,()),((),(),())):=by
 simp only[J3,ak,eG];by_cases b:a.1<=n<;>by_cases c:n<=a.2.1<;>simp[b,c]
def qf (k:Nat) (a b:bo):Cq k (a,b,())=some ((iH a b,()),((),(),())):=by
 simp only[Cq,fS,aa,eA,iH]
 cases bG a b
 ·rfl
 ·cases decide (b.1<=a.1)<;>rfl
def xW (k:Nat) (a b:bo):Ew k (a,b,())=some ((iH a b,()),((),(),())):=by
 simp only[Ew,ft,aa,eA,iH,bG]
 cases bt a
 ·rfl
 ·cases bt b
  ·rfl
  ·cases decide (b.1<=a.1)<;>rfl
def tX (k:Nat) (a b:bo):Eo k (a,b,())=some ((mG a b,()),((),(),())):=by
 simp only[Eo,fS,aa,eA,mG]
 cases bG a b<;>rfl
def oi (k:Nat) (a b:bo):Cy k (a,b,())=some ((eY a b,()),((),(),())):=rfl
def jw (k:Nat) (a b:bo):AS k (a,b,())=some (dX a b,((),(),())):=by
 simp only[AS,fS,aa,eA,dX,tW];rw[show((if b.1>a.1 then b.1 else a.1,if b.2.1<a.2.1 then b.2.1 else a.2.1,()):bo)=ie a b from rfl]
 generalize bt (ie a b)=r
 generalize bG a b=p
 generalize ie a b=c
 cases p<;>cases r<;>rfl
def li (k:Nat) (a b:bo):J9 k (a,b,())=some (dX a b,((),(),())):=by
 simp only[J9,ft,aa,eA,dX,bG];rw[show((if b.1>a.1 then b.1 else a.1,if b.2.1<a.2.1 then b.2.1 else a.2.1,()):bo)=ie a b from rfl]
 generalize bt (ie a b)=r
 generalize bt a=p
 generalize bt b=q
 generalize ie a b=c
 cases p<;>cases q<;>cases r<;>rfl
def eO {α β:Type} (f:β->α->β) (z:β) (l:List α) {i:Nat} (a:i<l.length):(l.take (i+1)).foldl f z=f ((l.take i).foldl f z) l[i]:=by
 rw[a2e a,a3g];rfl
def q7 (k:Nat) (b:bo) (t:bo) (a:Int) (l:List Int) (e:l.length<4611686018427387904) (d:l.length<k):aG (Eu.l2 k) k (l,(b.1,b.2.1,()),(t.1,t.2.1,()),(a,9223372036854775807,()),0,())=some (((a,oh l b.2.1,()),()),((),(),(),())):=by
 refine aR (λi=>(l,(b.1,b.2.1,()),(t.1,t.2.1,()),(a,oh (l.take i) b.2.1,()),(i:Int),())) l.length (λG i c=> ?_) (λG=> ?_) d
 ·simp only[Eu.l2]
  rw[a0b (show(i:Int)<(l.length:Int) by omega),a0b (show(0:Int)<=(i:Int) by omega),ah,ah];simp only[a0g,a0a c,aa,ak,ah,au (show i<4611686018427387904 by omega)];unfold oh;rw[eO _ _ l c];by_cases h:l[i]>=b.2.1
  ·rw[a0e h,a0e h]
  ·rw[a0c h,a0c h]
 ·simp only[Eu.l2]
  rw[a0i (show¬(l.length:Int)<(l.length:Int) by omega),af,a1f]
def CG (k:Nat) (a b:bo) (t:bo) (c:Int) (l:List Int) (f:l.length<4611686018427387904) (d:l.length<k):aG (Eu.l0 k) k (l,(a.1,a.2.1,()),(b.1,b.2.1,()),(t.1,t.2.1,()),(-9223372036854775808,c,()),0,())=some (((qe l b.1,if b.2.1>a.2.1 then oh l b.2.1 else c,()),()),((),(),(),())):=by
 refine aR (λi=>(l,(a.1,a.2.1,()),(b.1,b.2.1,()),(t.1,t.2.1,()),(qe (l.take i) b.1,c,()),(i:Int),())) l.length (λG i e=> ?_) (λG=> ?_) d
 ·simp only[Eu.l0]
  rw[a0b (show(i:Int)<(l.length:Int) by omega),a0b (show(0:Int)<=(i:Int) by omega),ah,ah];simp only[a0g,a0a e,aa,ak,ah,au (show i<4611686018427387904 by omega)];unfold qe;rw[eO _ _ l e];by_cases h:l[i]<=b.1
  ·rw[a0e h,a0e h]
  ·rw[a0c h,a0c h]
 ·simp only[Eu.l0]
  rw[a0i (show¬(l.length:Int)<(l.length:Int) by omega),af,a1f,ak];by_cases h:b.2.1>a.2.1
  ·rw[a0e h,a0e h,q7 k b t _ l f d]
  ·rw[a0c h,a0c h]
def CH {k:Nat} (a b:bo) (l:List Int) (i:100<k):Eu k (a,b,l,())=some ((jQ a b l,()),((),(),(),())):=by
 simp only[Eu,ft,aa,jQ,bG]
 cases h:bt a
 ·simp only[a0v,ah,a0d,a3n,a1q]
 ·cases h':bt b
  ·simp only[a0v,a0j,af,ah,a0d,a1i,a3n,a1q]
  ·simp only[a0j,af,a0d,ak,a1i]
   by_cases f:(l.length:Int)>100
   ·rw[a0e f,a0i (show¬l.length<=100 by omega)]
    simp only[a0d,ah,a1q]
   ·rw[a0c f,a0b (show l.length<=100 by omega)]
    simp only[a0z];have g:l.length<4611686018427387904:=by omega
    have c:l.length<k:=by omega
    by_cases d:b.1<a.1
    ·rw[a0e d,CG k a b (0,0,()) a.2.1 l g c,a0e d]
    ·rw[a0c d,a0c d]
     by_cases e:b.2.1>a.2.1
     ·rw[a0e e,q7 k b (0,0,()) a.1 l g c,a0e e]
     ·rw[a0c e,a0c e]
def dg (a b:Int):Int:=wrap .i64 (((BitVec.ofInt 64 a|||BitVec.ofInt 64 b).toNat:Int))
def sk:List Int->Int
 |[]=>0
 |x::r=>r.foldl (λm y=>if y<m then y else m) x
def sm:List Int->Int
 |[]=>0
 |x::r=>r.foldl (λm y=>if y>m then y else m) x
def KK {k:Nat} (l:List Int) (h:l.length*8<=ai):Ct k (l,())=some ((l,()),((),())):=by
 simp only[Ct,a0q,a1o,a2m];rw[a0b h];simp only[ah]
 cases l with
 |nil=>simp[mY]
 |cons x r=>simp
def tY {k:Nat} (l:List Int) (h:0<l.length) (c:l.length<4611686018427387904) (d:l.length<k):AT k (l,())=some ((sk l,()),((),())):=by
 cases l with
 |nil=>simp at h
 |cons x r=>
  simp only[AT];rw[a0i (show¬(((x::r).length:Nat):Int)<1 by simp;omega)];simp only[af,a5a,decide_true,ah,a3h,a1t,aa];have:=aR (b:=AT.l0 k) (λi=>(x::r,(r.take i).foldl (λm y=>if y<m then y else m) x,(((i+1:Nat):Int)),())) r.length (r:=some ((sk (x::r),()),((),()))) (λG i e=> ?_) (λG=> ?_) (f:=k) (by simp at d;omega)
  ·simpa using this
  ·have a:i+1<(x::r).length:=by simp;omega
   simp only[a0o]at c;simp only[AT.l0];rw[a0b (show((i+1:Nat):Int)<(((x::r).length:Nat):Int) by exact_mod_cast a),a0b (show(0:Int)<=((i+1:Nat):Int) by omega)];simp only[ah,a0g,a0a a,aa,au (show i+1<4611686018427387904 by omega)];rw[eO _ _ r e];simp
  ·simp only[AT.l0]
   rw[a0i (show¬((r.length+1:Nat):Int)<(((x::r).length:Nat):Int) by simp),af,a1f];rfl
def tZ {k:Nat} (l:List Int) (h:0<l.length) (c:l.length<4611686018427387904) (d:l.length<k):AU k (l,())=some ((sm l,()),((),())):=by
 cases l with
 |nil=>simp at h
 |cons x r=>
  simp only[AU];rw[a0i (show¬(((x::r).length:Nat):Int)<1 by simp;omega)];simp only[af,a5a,decide_true,ah,a3h,a1t,aa];have:=aR (b:=AU.l0 k) (λi=>(x::r,(r.take i).foldl (λm y=>if y>m then y else m) x,(((i+1:Nat):Int)),())) r.length (r:=some ((sm (x::r),()),((),()))) (λG i e=> ?_) (λG=> ?_) (f:=k) (by simp at d;omega)
  ·simpa using this
  ·have a:i+1<(x::r).length:=by simp;omega
   simp only[a0o]at c;simp only[AU.l0];rw[a0b (show((i+1:Nat):Int)<(((x::r).length:Nat):Int) by exact_mod_cast a),a0b (show(0:Int)<=((i+1:Nat):Int) by omega)];simp only[ah,a0g,a0a a,aa,au (show i+1<4611686018427387904 by omega)];rw[eO _ _ r e];simp
  ·simp only[AU.l0]
   rw[a0i (show¬((r.length+1:Nat):Int)<(((x::r).length:Nat):Int) by simp),af,a1f];rfl
def jx (l:List Int) (a b:Bool) (c:Int):ir:=cond ((l++cond a [-9223372036854775808] []).isEmpty||(l++cond b [9223372036854775807] []).isEmpty) (0,0,false,cond (a||b) (dg c 4) c,()) (sk (l++cond a [-9223372036854775808] []),sm (l++cond b [9223372036854775807] []),true,cond (a||b) (dg c 4) c,())
def Ov (l:List Int):((l.length:Int)==0)=l.isEmpty:=by cases l<;>simp;omega
def zY {k:Nat} (l:List Int) (e f:Bool) (g:Int) (o:l.length<1000) (i:l.length+1<k):JJ k ((l,e,f,()),g,())=some ((jx l e f g,()),((l,e,f,()),(),())):=by
 have j:=KK (k:=k) l (by unfold ai;omega);have m:∀z:Int,decide ((l.length+([z]:List Int).length)*8<=ai)=true:=λz=>by simp[ai];omega
 have n:∀z:Int,(l++[z]).isEmpty=false:=λz=>by cases l<;>rfl
 have c:∀z:Int,AT k (l++[z],())=some ((sk (l++[z]),()),((),())):=λz=>tY _ (by simp) (by simp;omega) (by simpa using i)
 have d:∀z:Int,AU k (l++[z],())=some ((sm (l++[z]),()),((),())):=λz=>tZ _ (by simp) (by simp;omega) (by simpa using i)
 have a:l.isEmpty=false->AT k (l,())=some ((sk l,()),((),())):=λh=>tY _ (by cases l;simp at h;simp) (by omega) (by omega)
 have b:l.isEmpty=false->AU k (l,())=some ((sm l,()),((),())):=λh=>tZ _ (by cases l;simp at h;simp) (by omega) (by omega)
 unfold JJ jx dg
 cases e<;>cases f<;>simp only[ah,af,a0d,j,aa,m,Ov,n,c,d,a0z,a1q,Bool.or_true,a8v,a7f,a5i,a2b]<;>cases he:l.isEmpty<;>simp only[he,ah,af,a0d,a,b,aa,a0z,a1q]
 all_goals rfl
abbrev iI:=List Int×Bool×Bool×Unit
def cL (c:iI) (p:Int×Int):iI:=if p.2<0 then(c.1,true,c.2.2.1,())else if p.2>0 then(c.1,c.2.1,true,())else(c.1++[p.1],c.2.1,c.2.2.1,())
def dK (op:Int->Int->Int×Int) (a b:bo):List (Int×Int):=[op a.1 b.1,op a.1 b.2.1,op a.2.1 b.1,op a.2.1 b.2.1]
def oj (c:iI) (p:Int×Int):(cL c p).1.length<=c.1.length+1:=by
 unfold cL;split
 ·simp
 ·split<;>simp
def cw:(l:List (Int×Int))->(c:iI)->(l.foldl cL c).1.length<=c.1.length+l.length
 |[],c=>by simp
 |p::l,c=>by
  have a:=cw l (cL c p);have b:=oj c p;simp only[a1u,a0o];omega
def dQ (k:Nat) (c:iI) (n w:Int) (h:c.1.length<1000):LH k ((c.1,c.2.1,c.2.2.1,()),n,w,())=some ((),(cL c (n,w),(),(),())):=by
 obtain⟨l,a,b,⟨⟩⟩:=c;simp only at h;simp only[LH,cL,ak];split
 ·rfl
 ·split
  ·rfl
  ·rw[a0e (by simp[ai];omega)]
def gz (a b:Int):Int×Int:=gM (a+b)
def fF (a b:Int):Int×Int:=gM (a-b)
def gC (a b:Int):Int×Int:=gM (a*b)
def ua (k:Nat) {a b:Int} (c:ay a) (_:ay b):GZ k (a,b,())=some (((d8 a b).1,(d8 a b).2,()),((),(),())):=Hk k c
def ub (k:Nat) {a b:Int} (c:ay a) (d:ay b):GX k (a,b,())=some (((gz a b).1,(gz a b).2,()),((),(),())):=Hg k c d
def uc (k:Nat) {a b:Int} (c:ay a) (d:ay b):GW k (a,b,())=some (((fF a b).1,(fF a b).2,()),((),(),())):=Hh k c d
def ud (k:Nat) {a b:Int} (c:ay a) (d:ay b):GY k (a,b,())=some (((gC a b).1,(gC a b).2,()),((),(),())):=Hj k c d
def A0 {k:Nat} (n:3<=k) (b:bo) (f:ay b.1) (g:ay b.2.1) (j:_->Option (Unit×(iI×Unit×Unit×Unit×Unit))) (c:iI) (x:Int) (l:ay x) (o:c.1.length<200) (a:List Int) (d e:Int):aG (Cs.l2 k j) k ((c.1,c.2.1,c.2.2.1,()),(),(b.1,b.2.1,()),x,a,d,e,[b.1,b.2.1],(([b.1,b.2.1]:List Int).length:Int),0,())=j (([fF x b.1,fF x b.2.1].foldl cL c),(),(b.1,b.2.1,()),a,d,wrap .i64 (e+1),()):=by
 have p:=λi=>cw (([fF x b.1,fF x b.2.1]:List (Int×Int)).take i) c
 refine aR (b:=Cs.l2 k j) (λi=>(((([fF x b.1,fF x b.2.1]:List (Int×Int)).take i).foldl cL c|>.1,((([fF x b.1,fF x b.2.1]:List (Int×Int)).take i).foldl cL c).2.1,((([fF x b.1,fF x b.2.1]:List (Int×Int)).take i).foldl cL c).2.2.1,()),(),(b.1,b.2.1,()),x,a,d,e,[b.1,b.2.1],(([b.1,b.2.1]:List Int).length:Int),(i:Int),())) 2 (λG i m=> ?_) (λG=> ?_) (by omega)
 ·match i,m with
  |0,_=>
   simp only[Cs.l2];have h:=dQ k c (fF x b.1).1 (fF x b.1).2 (by omega);simp[uc k l f,h,am]
  |1,_=>
   simp only[Cs.l2];have q:=oj c (fF x b.1);have h:=dQ k (cL c (fF x b.1)) (fF x b.2.1).1 (fF x b.2.1).2 (by omega);simp[uc k l g,h,am]
 ·simp[Cs.l2]
def KL {k:Nat} (j:3<=k) (a b:bo) (f:ay a.1) (g:ay a.2.1) (d:ay b.1) (e:ay b.2.1) (c:iI) (n:c.1.length<100):Cs k ((c.1,c.2.1,c.2.2.1,()),a,b,(),())=some ((),((dK fF a b).foldl cL c,(),(),(),())):=by
 simp only[Cs];have l:=cw [fF a.1 b.1,fF a.1 b.2.1] c;refine aR (b:=Cs.l0 k) (λi=>(((((dK fF a b).take (2*i)).foldl cL c).1,(((dK fF a b).take (2*i)).foldl cL c).2.1,(((dK fF a b).take (2*i)).foldl cL c).2.2.1,()),(),(b.1,b.2.1,()),[a.1,a.2.1],(([a.1,a.2.1]:List Int).length:Int),(i:Int),())) 2 (λG i m=> ?_) (λG=> ?_) (by omega)
 ·match i,m with
  |0,_=>
   simp only[Cs.l0];have h:=A0 j b d e G c a.1 f (by omega) [a.1,a.2.1] (([a.1,a.2.1]:List Int).length:Int) 0;simp only[a0o,a0q]at h;rw[show wrap .i64 ((0:Int)+1)=1 from am (by omega) (by omega)]at h;simp[dK,am];exact h
  |1,_=>
   simp only[Cs.l0];have h:=A0 j b d e G ([fF a.1 b.1,fF a.1 b.2.1].foldl cL c) a.2.1 g (by simp only[a0o,a0q]at l;omega) [a.1,a.2.1] (([a.1,a.2.1]:List Int).length:Int) 1;simp only[a0o,a0q]at h;rw[show wrap .i64 ((1:Int)+1)=2 from am (by omega) (by omega)]at h;simp[dK,am];exact h
 ·simp[Cs.l0,dK]
def A1 {k:Nat} (n:3<=k) (b:bo) (f:ay b.1) (g:ay b.2.1) (j:_->Option (Unit×(iI×Unit×Unit×Unit×Unit))) (c:iI) (x:Int) (l:ay x) (o:c.1.length<200) (a:List Int) (d e:Int):aG (Cu.l2 k j) k ((c.1,c.2.1,c.2.2.1,()),(),(b.1,b.2.1,()),x,a,d,e,[b.1,b.2.1],(([b.1,b.2.1]:List Int).length:Int),0,())=j (([gz x b.1,gz x b.2.1].foldl cL c),(),(b.1,b.2.1,()),a,d,wrap .i64 (e+1),()):=by
 have p:=λi=>cw (([gz x b.1,gz x b.2.1]:List (Int×Int)).take i) c
 refine aR (b:=Cu.l2 k j) (λi=>(((([gz x b.1,gz x b.2.1]:List (Int×Int)).take i).foldl cL c|>.1,((([gz x b.1,gz x b.2.1]:List (Int×Int)).take i).foldl cL c).2.1,((([gz x b.1,gz x b.2.1]:List (Int×Int)).take i).foldl cL c).2.2.1,()),(),(b.1,b.2.1,()),x,a,d,e,[b.1,b.2.1],(([b.1,b.2.1]:List Int).length:Int),(i:Int),())) 2 (λG i m=> ?_) (λG=> ?_) (by omega)
 ·match i,m with
  |0,_=>
   simp only[Cu.l2];have h:=dQ k c (gz x b.1).1 (gz x b.1).2 (by omega);simp[ub k l f,h,am]
  |1,_=>
   simp only[Cu.l2];have q:=oj c (gz x b.1);have h:=dQ k (cL c (gz x b.1)) (gz x b.2.1).1 (gz x b.2.1).2 (by omega);simp[ub k l g,h,am]
 ·simp[Cu.l2]
def KM {k:Nat} (j:3<=k) (a b:bo) (f:ay a.1) (g:ay a.2.1) (d:ay b.1) (e:ay b.2.1) (c:iI) (n:c.1.length<100):Cu k ((c.1,c.2.1,c.2.2.1,()),a,b,(),())=some ((),((dK gz a b).foldl cL c,(),(),(),())):=by
 simp only[Cu];have l:=cw [gz a.1 b.1,gz a.1 b.2.1] c;refine aR (b:=Cu.l0 k) (λi=>(((((dK gz a b).take (2*i)).foldl cL c).1,(((dK gz a b).take (2*i)).foldl cL c).2.1,(((dK gz a b).take (2*i)).foldl cL c).2.2.1,()),(),(b.1,b.2.1,()),[a.1,a.2.1],(([a.1,a.2.1]:List Int).length:Int),(i:Int),())) 2 (λG i m=> ?_) (λG=> ?_) (by omega)
 ·match i,m with
  |0,_=>
   simp only[Cu.l0];have h:=A1 j b d e G c a.1 f (by omega) [a.1,a.2.1] (([a.1,a.2.1]:List Int).length:Int) 0;simp only[a0o,a0q]at h;rw[show wrap .i64 ((0:Int)+1)=1 from am (by omega) (by omega)]at h;simp[dK,am];exact h
  |1,_=>
   simp only[Cu.l0];have h:=A1 j b d e G ([gz a.1 b.1,gz a.1 b.2.1].foldl cL c) a.2.1 g (by simp only[a0o,a0q]at l;omega) [a.1,a.2.1] (([a.1,a.2.1]:List Int).length:Int) 1;simp only[a0o,a0q]at h;rw[show wrap .i64 ((1:Int)+1)=2 from am (by omega) (by omega)]at h;simp[dK,am];exact h
 ·simp[Cu.l0,dK]
def A2 {k:Nat} (n:3<=k) (b:bo) (f:ay b.1) (g:ay b.2.1) (j:_->Option (Unit×(iI×Unit×Unit×Unit×Unit))) (c:iI) (x:Int) (l:ay x) (o:c.1.length<200) (a:List Int) (d e:Int):aG (Cv.l2 k j) k ((c.1,c.2.1,c.2.2.1,()),(),(b.1,b.2.1,()),x,a,d,e,[b.1,b.2.1],(([b.1,b.2.1]:List Int).length:Int),0,())=j (([gC x b.1,gC x b.2.1].foldl cL c),(),(b.1,b.2.1,()),a,d,wrap .i64 (e+1),()):=by
 have p:=λi=>cw (([gC x b.1,gC x b.2.1]:List (Int×Int)).take i) c
 refine aR (b:=Cv.l2 k j) (λi=>(((([gC x b.1,gC x b.2.1]:List (Int×Int)).take i).foldl cL c|>.1,((([gC x b.1,gC x b.2.1]:List (Int×Int)).take i).foldl cL c).2.1,((([gC x b.1,gC x b.2.1]:List (Int×Int)).take i).foldl cL c).2.2.1,()),(),(b.1,b.2.1,()),x,a,d,e,[b.1,b.2.1],(([b.1,b.2.1]:List Int).length:Int),(i:Int),())) 2 (λG i m=> ?_) (λG=> ?_) (by omega)
 ·match i,m with
  |0,_=>
   simp only[Cv.l2];have h:=dQ k c (gC x b.1).1 (gC x b.1).2 (by omega);simp[ud k l f,h,am]
  |1,_=>
   simp only[Cv.l2];have q:=oj c (gC x b.1);have h:=dQ k (cL c (gC x b.1)) (gC x b.2.1).1 (gC x b.2.1).2 (by omega);simp[ud k l g,h,am]
 ·simp[Cv.l2]
def KN {k:Nat} (j:3<=k) (a b:bo) (f:ay a.1) (g:ay a.2.1) (d:ay b.1) (e:ay b.2.1) (c:iI) (n:c.1.length<100):Cv k ((c.1,c.2.1,c.2.2.1,()),a,b,(),())=some ((),((dK gC a b).foldl cL c,(),(),(),())):=by
 simp only[Cv];have l:=cw [gC a.1 b.1,gC a.1 b.2.1] c;refine aR (b:=Cv.l0 k) (λi=>(((((dK gC a b).take (2*i)).foldl cL c).1,(((dK gC a b).take (2*i)).foldl cL c).2.1,(((dK gC a b).take (2*i)).foldl cL c).2.2.1,()),(),(b.1,b.2.1,()),[a.1,a.2.1],(([a.1,a.2.1]:List Int).length:Int),(i:Int),())) 2 (λG i m=> ?_) (λG=> ?_) (by omega)
 ·match i,m with
  |0,_=>
   simp only[Cv.l0];have h:=A2 j b d e G c a.1 f (by omega) [a.1,a.2.1] (([a.1,a.2.1]:List Int).length:Int) 0;simp only[a0o,a0q]at h;rw[show wrap .i64 ((0:Int)+1)=1 from am (by omega) (by omega)]at h;simp[dK,am];exact h
  |1,_=>
   simp only[Cv.l0];have h:=A2 j b d e G ([gC a.1 b.1,gC a.1 b.2.1].foldl cL c) a.2.1 g (by simp only[a0o,a0q]at l;omega) [a.1,a.2.1] (([a.1,a.2.1]:List Int).length:Int) 1;simp only[a0o,a0q]at h;rw[show wrap .i64 ((1:Int)+1)=2 from am (by omega) (by omega)]at h;simp[dK,am];exact h
 ·simp[Cv.l0,dK]
def A3 {k:Nat} (n:3<=k) (b:bo) (f:ay b.1) (g:ay b.2.1) (j:_->Option (Unit×(iI×Unit×Unit×Unit×Unit))) (c:iI) (x:Int) (l:ay x) (o:c.1.length<200) (a:List Int) (d e:Int):aG (Cw.l2 k j) k ((c.1,c.2.1,c.2.2.1,()),(),(b.1,b.2.1,()),x,a,d,e,[b.1,b.2.1],(([b.1,b.2.1]:List Int).length:Int),0,())=j (([d8 x b.1,d8 x b.2.1].foldl cL c),(),(b.1,b.2.1,()),a,d,wrap .i64 (e+1),()):=by
 have p:=λi=>cw (([d8 x b.1,d8 x b.2.1]:List (Int×Int)).take i) c
 refine aR (b:=Cw.l2 k j) (λi=>(((([d8 x b.1,d8 x b.2.1]:List (Int×Int)).take i).foldl cL c|>.1,((([d8 x b.1,d8 x b.2.1]:List (Int×Int)).take i).foldl cL c).2.1,((([d8 x b.1,d8 x b.2.1]:List (Int×Int)).take i).foldl cL c).2.2.1,()),(),(b.1,b.2.1,()),x,a,d,e,[b.1,b.2.1],(([b.1,b.2.1]:List Int).length:Int),(i:Int),())) 2 (λG i m=> ?_) (λG=> ?_) (by omega)
 ·match i,m with
  |0,_=>
   simp only[Cw.l2];have h:=dQ k c (d8 x b.1).1 (d8 x b.1).2 (by omega);simp[ua k l f,h,am]
  |1,_=>
   simp only[Cw.l2];have q:=oj c (d8 x b.1);have h:=dQ k (cL c (d8 x b.1)) (d8 x b.2.1).1 (d8 x b.2.1).2 (by omega);simp[ua k l g,h,am]
 ·simp[Cw.l2]
def KO {k:Nat} (j:3<=k) (a b:bo) (f:ay a.1) (g:ay a.2.1) (d:ay b.1) (e:ay b.2.1) (c:iI) (n:c.1.length<100):Cw k ((c.1,c.2.1,c.2.2.1,()),a,b,(),())=some ((),((dK d8 a b).foldl cL c,(),(),(),())):=by
 simp only[Cw];have l:=cw [d8 a.1 b.1,d8 a.1 b.2.1] c;refine aR (b:=Cw.l0 k) (λi=>(((((dK d8 a b).take (2*i)).foldl cL c).1,(((dK d8 a b).take (2*i)).foldl cL c).2.1,(((dK d8 a b).take (2*i)).foldl cL c).2.2.1,()),(),(b.1,b.2.1,()),[a.1,a.2.1],(([a.1,a.2.1]:List Int).length:Int),(i:Int),())) 2 (λG i m=> ?_) (λG=> ?_) (by omega)
 ·match i,m with
  |0,_=>
   simp only[Cw.l0];have h:=A3 j b d e G c a.1 f (by omega) [a.1,a.2.1] (([a.1,a.2.1]:List Int).length:Int) 0;simp only[a0o,a0q]at h;rw[show wrap .i64 ((0:Int)+1)=1 from am (by omega) (by omega)]at h;simp[dK,am];exact h
  |1,_=>
   simp only[Cw.l0];have h:=A3 j b d e G ([d8 a.1 b.1,d8 a.1 b.2.1].foldl cL c) a.2.1 g (by simp only[a0o,a0q]at l;omega) [a.1,a.2.1] (([a.1,a.2.1]:List Int).length:Int) 1;simp only[a0o,a0q]at h;rw[show wrap .i64 ((1:Int)+1)=2 from am (by omega) (by omega)]at h;simp[dK,am];exact h
 ·simp[Cw.l0,dK]
def bc (a:bo):Prop:=ay a.1/\ay a.2.1
def ej (cs:List (Int×Int)) (a:Int):ir:=jx (cs.foldl cL ([],false,false,())).1 (cs.foldl cL ([],false,false,())).2.1 (cs.foldl cL ([],false,false,())).2.2.1 a
def jy:ir:=(0,0,false,0,())
def jz (op:Int->Int->Int×Int) (a b:bo):ir:=cond (bG a b) (ej (dK op a b) 0) jy
def lj {k:Nat} (cs:List (Int×Int)) (a:Int) (h:cs.length<100) (c:200<=k):JJ k (((cs.foldl cL ([],false,false,())).1,(cs.foldl cL ([],false,false,())).2.1,(cs.foldl cL ([],false,false,())).2.2.1,()),a,())=some ((ej cs a,()),(((cs.foldl cL ([],false,false,())).1,(cs.foldl cL ([],false,false,())).2.1,(cs.foldl cL ([],false,false,())).2.2.1,()),(),())):=by
 have b:=cw cs ([],false,false,());simp only[a0q]at b;exact zY _ _ _ a (by omega) (by omega)
def M4 {k:Nat} (e:200<=k) {a b:bo} (c:bc a) (d:bc b):JK k (a,b,(),())=some ((jz fF a b,()),((),(),(),())):=by
 simp only[JK,fS,aa,jz]
 cases bG a b
 ·simp[jy]
 ·have h:=KL (k:=k) (by omega) a b c.1 c.2 d.1 d.2 ([],false,false,()) (by simp)
  simp only[a0j,af,h,aa,lj (dK fF a b) 0 (by simp[dK]) e,a0z]
def M5 {k:Nat} (e:200<=k) {a b:bo} (c:bc a) (d:bc b):JN k (a,b,(),())=some ((jz gz a b,()),((),(),(),())):=by
 simp only[JN,fS,aa,jz]
 cases bG a b
 ·simp[jy]
 ·have h:=KM (k:=k) (by omega) a b c.1 c.2 d.1 d.2 ([],false,false,()) (by simp)
  simp only[a0j,af,h,aa,lj (dK gz a b) 0 (by simp[dK]) e,a0z]
def M6 {k:Nat} (e:200<=k) {a b:bo} (c:bc a) (d:bc b):JP k (a,b,(),())=some ((jz gC a b,()),((),(),(),())):=by
 simp only[JP,fS,aa,jz]
 cases bG a b
 ·simp[jy]
 ·have h:=KN (k:=k) (by omega) a b c.1 c.2 d.1 d.2 ([],false,false,()) (by simp)
  simp only[a0j,af,h,aa,lj (dK gC a b) 0 (by simp[dK]) e,a0z]
def CI {k:Nat} (c:200<=k) {a b:bo} (d:bc a) (e:bc b):JO k (a,b,())=some ((jz gz a b,()),((),(),())):=by
 simp only[JO,M5 c d e,aa]
def q8 {k:Nat} (c:200<=k) {a b:bo} (d:bc a) (e:bc b):El k (a,b,())=some ((jz fF a b,()),((),(),())):=by
 simp only[El,M4 c d e,aa]
def CJ {k:Nat} (c:200<=k) {a b:bo} (d:bc a) (e:bc b):JQ k (a,b,())=some ((jz gC a b,()),((),(),())):=by
 simp only[JQ,M6 c d e,aa]
def cx:bc (0,0,()):=by unfold bc ay;simp
def CK {k:Nat} (b:200<=k) {a:bo} (c:bc a):JL k (a,())=some ((jz fF (0,0,()) a,()),((),())):=by
 simp only[JL,q8 b cx c,aa]
def cB (b:bo):List bo:=(if b.1<0 then [(b.1,if b.2.1< -1 then b.2.1 else-1,())]else [])++(if b.2.1>0 then [(if b.1>1 then b.1 else 1,b.2.1,())]else [])
def pC (b:bo):Int:=cond (eG b 0) 1 0
def KP {b:bo} (e:bc b) (d:bt b=true):dX b (-9223372036854775808,-1,())=if b.1<0 then((b.1,if b.2.1< -1 then b.2.1 else-1,()),true,())else((0,0,()),false,()):=by
 obtain⟨⟨g,i⟩,j,k⟩:=e;have f:b.1<=b.2.1:=a0x d;have a:ie b (-9223372036854775808,-1,())=(b.1,if-1<b.2.1 then-1 else b.2.1,()):=by
  unfold ie;simp only;rw[a0c (by omega)]
 have c:bt ((-9223372036854775808:Int),(-1:Int),())=true:=rfl;unfold dX bG;rw[d,c,a];by_cases h:b.1<0
 ·rw[a0e h]
  have:bt (b.1,if-1<b.2.1 then-1 else b.2.1,())=true:=a0b (by simp only;split<;>omega);rw[this];simp only[a3v,a0z]
  congr 2
  split<;>split<;>first|rfl|omega|(congr 1;omega)
 ·rw[a0c h]
  have:bt (b.1,if-1<b.2.1 then-1 else b.2.1,())=false:=a0i (by simp only;split<;>omega);rw[this];rfl
def KQ {b:bo} (e:bc b) (d:bt b=true):dX b (1,9223372036854775807,())=if b.2.1>0 then((if b.1>1 then b.1 else 1,b.2.1,()),true,())else((0,0,()),false,()):=by
 obtain⟨⟨g,i⟩,j,k⟩:=e;have f:b.1<=b.2.1:=a0x d;have a:ie b (1,9223372036854775807,())=(if 1>b.1 then 1 else b.1,b.2.1,()):=by
  unfold ie;simp only;rw[a0c (show¬(9223372036854775807<b.2.1) by omega)]
 have c:bt ((1:Int),(9223372036854775807:Int),())=true:=rfl;unfold dX bG;rw[d,c,a];by_cases h:b.2.1>0
 ·rw[a0e h]
  have:bt (if 1>b.1 then 1 else b.1,b.2.1,())=true:=a0b (by simp only;split<;>omega);rw[this];simp only[a3v,a0z]
  congr 2
  split<;>split<;>first|rfl|omega
 ·rw[a0c h]
  have:bt (if 1>b.1 then 1 else b.1,b.2.1,())=false:=a0i (by simp only;split<;>omega);rw[this];rfl
def ue {k:Nat} {b:bo} (a:bc b) (c:bt b=true):En k (b,())=some ((cB b,pC b,()),((),())):=by
 simp only[En,jw,aa,KP a c,KQ a c,mH,cB,pC];by_cases d:b.1<0<;>by_cases e:b.2.1>0<;>simp only[d,e,a2c,a1y]<;>cases eG b 0<;>simp[ai]
def mJ {b:bo} (a:bc b):∀x∈cB b,bc x:=by
 obtain⟨⟨c,d⟩,e,f⟩:=a;intro x hx;unfold cB at hx;rcases a0l.1 hx with hx|hx
 ·split at hx
  ·simp only[a1c]at hx
   subst hx;exact⟨⟨c,d⟩,by unfold ay;simp only;split<;>omega⟩
  ·cases hx
 ·split at hx
  ·simp only[a1c]at hx
   subst hx;exact⟨by unfold ay;simp only;split<;>omega,⟨e,f⟩⟩
  ·cases hx
def A4 (b:bo):(cB b).length<=2:=by
 unfold cB;by_cases a:b.1<0<;>by_cases c:b.2.1>0<;>simp only[a,c,a2c,a1y]<;>simp
def A5 (a b:bo):List (Int×Int):=(cB b).flatMap (dK d8 a)
def q9 (a b:bo):ir:=cond (bG a b) (ej (A5 a b) (pC b)) jy
def M7 (op:Int->Int->Int×Int) (a b:bo):(dK op a b).length=4:=rfl
def sn (a:bo):(l:List bo)->(l.flatMap (dK d8 a)).length=4*l.length
 |[]=>rfl
 |x::l=>by rw[a6m,a0m,sn a l,M7,a0o];omega
def CL {k:Nat} (m:200<=k) {a b:bo} (f:bc a) (g:bc b):xm k (a,b,())=some ((q9 a b,()),((),(),())):=by
 simp only[xm,fS,aa,q9]
 cases ho:bG a b
 ·simp[jy]
 ·have c:bt b=true:=by unfold bG at ho;simp only[a0f]at ho;exact ho.2
  simp only[a0j,af,ue g c,aa,a0z];have n:=A4 b
  let cs:Nat->iI:=λi=>(((cB b).take i).flatMap (dK d8 a)).foldl cL ([],false,false,())
  have d:∀i,(cs i).1.length<=8:=λi=>by
   have j:=cw (((cB b).take i).flatMap (dK d8 a)) ([],false,false,());rw[sn,a1m]at j;simp only[a0q]at j;show(List.foldl cL ([],false,false,()) (((cB b).take i).flatMap (dK d8 a))).1.length<=8;omega
  refine aR (b:=xm.l0 k) (λi=>((a.1,a.2.1,()),(0,0,false,0,()),pC b,((cs i).1,(cs i).2.1,(cs i).2.2.1,()),cB b,((cB b).length:Int),(i:Int),())) (cB b).length (λG i e=> ?_) (λG=> ?_) (by omega)
  ·simp only[xm.l0]
   rw[a0b (show(i:Int)<((cB b).length:Int) by omega),a0b (show(0:Int)<=(i:Int)/\(i:Int)<((cB b).length:Int) by omega)];have l:=mJ g _ (a0h e);have h:=KO (k:=k) (by omega) (a.1,a.2.1,()) (cB b)[i] f.1 f.2 l.1 l.2 (cs i) (by have:=d i;omega);simp only[ah,a0g,a0a e,aa,h,au (show i<4611686018427387904 by omega)];have o:cs (i+1)=(dK d8 a (cB b)[i]).foldl cL (cs i):=by
    show List.foldl cL _ (((cB b).take (i+1)).flatMap (dK d8 a))=_;rw[a2e e,a6d,a3g];simp[cs]
   rw[o]
  ·simp only[xm.l0]
   rw[a0i (show¬((cB b).length:Int)<((cB b).length:Int) by omega),af];have p:=lj (k:=k) (A5 a b) (pC b) (by unfold A5;rw[sn];omega) m;have q:cs (cB b).length=(A5 a b).foldl cL ([],false,false,()):=by
    show List.foldl cL _ (((cB b).take (cB b).length).flatMap (dK d8 a))=_;rw[a1f];rfl
   rw[q,p];simp only[aa]
def uf (p q:Int×Int):Bool:=decide (p.2<q.2)||(p.2==q.2&& decide (p.1<q.1))
def ug (p q:Int×Int):Bool:=decide (p.2>q.2)||(p.2==q.2&& decide (p.1>q.1))
def jA (cs:List (Int×Int)):Nat->Nat
 |0=>0
 |i+1=>cond (uf (cs.getD i (0,0)) (cs.getD (jA cs i) (0,0))) i (jA cs i)
def jB (cs:List (Int×Int)):Nat->Nat
 |0=>0
 |i+1=>cond (ug (cs.getD i (0,0)) (cs.getD (jB cs i) (0,0))) i (jB cs i)
def Ow (cs:List (Int×Int)):Nat->Int
 |0=>0
 |i+1=>cond ((cs.getD i (0,0)).2 !=0) 4 (Ow cs i)
def Iw (cs:List (Int×Int)):ir:=cond (decide ((cs.getD (jA cs cs.length) (0,0)).2>0)||decide ((cs.getD (jB cs cs.length) (0,0)).2<0)) (0,0,false,Ow cs cs.length,()) (cond (decide ((cs.getD (jA cs cs.length) (0,0)).2<0)) (-9223372036854775808) (cs.getD (jA cs cs.length) (0,0)).1,cond (decide ((cs.getD (jB cs cs.length) (0,0)).2>0)) 9223372036854775807 (cs.getD (jB cs cs.length) (0,0)).1,true,Ow cs cs.length,())
def vu (cs:List (Int×Int)) (h:0<cs.length):(i:Nat)->i<=cs.length->jA cs i<cs.length
 |0,_=>h
 |i+1,hi=>by
  have:=vu cs h i (by omega);unfold jA
  cases uf (cs.getD i (0,0)) (cs.getD (jA cs i) (0,0))
  ·exact this
  ·simp only[a0z];omega
def vv (cs:List (Int×Int)) (h:0<cs.length):(i:Nat)->i<=cs.length->jB cs i<cs.length
 |0,_=>h
 |i+1,hi=>by
  have:=vv cs h i (by omega);unfold jB
  cases ug (cs.getD i (0,0)) (cs.getD (jB cs i) (0,0))
  ·exact this
  ·simp only[a0z];omega
def ol (cs:List (Int×Int)) {i:Nat} (h:i<cs.length):(cs.map (·.1))[i]?=some (cs.getD i (0,0)).1:=by
 simp[List.getD,h]
def om (cs:List (Int×Int)) {i:Nat} (h:i<cs.length):(cs.map (·.2))[i]?=some (cs.getD i (0,0)).2:=by
 simp[List.getD,h]
def KR {k:Nat} (cs:List (Int×Int)) (d:0<cs.length) (h:cs.length<4611686018427387904) (g:cs.length<k):sd k (cs.map (·.1),cs.map (·.2),())=some ((Iw cs,()),((),(),())):=by
 simp only[sd];rw[show(((cs.map (·.1)).length:Int)==0)=false by simp;intro e;rw[e]at d;simp at d];simp only[af];refine aR (b:=sd.l0 k) (λi=>(cs.map (·.1),cs.map (·.2),(0,0,false,0,()),(jA cs i:Int),(jB cs i:Int),(0,0,false,Ow cs i,()),(i:Int),())) cs.length (λG i f=> ?_) (λG=> ?_) g
 ·have a:=vu cs d i (by omega)
  have c:=vv cs d i (by omega);simp only[sd.l0];rw[a0b (show(i:Int)<((cs.map (·.1)).length:Int) by simp;omega),a0b (show(0:Int)<=(i:Int) by omega),a0b (show(0:Int)<=(jA cs i:Int) by omega),a0b (show(0:Int)<=(jB cs i:Int) by omega)];simp only[ah,a0g,ol cs f,om cs f,ol cs a,om cs a,ol cs c,om cs c,aa,au (show i<4611686018427387904 by omega),eA];rw[show jA cs (i+1)=cond (uf (cs.getD i (0,0)) (cs.getD (jA cs i) (0,0))) i (jA cs i)from rfl,show jB cs (i+1)=cond (ug (cs.getD i (0,0)) (cs.getD (jB cs i) (0,0))) i (jB cs i)from rfl,show Ow cs (i+1)=cond ((cs.getD i (0,0)).2 !=0) 4 (Ow cs i)from rfl];unfold uf ug
  generalize ((cs.getD i (0,0)).2 !=0)=b1
  generalize decide ((cs.getD i (0,0)).2<(cs.getD (jA cs i) (0,0)).2)=b2
  generalize ((cs.getD i (0,0)).2==(cs.getD (jA cs i) (0,0)).2)=b3
  generalize decide ((cs.getD i (0,0)).1<(cs.getD (jA cs i) (0,0)).1)=b4
  generalize decide ((cs.getD i (0,0)).2>(cs.getD (jB cs i) (0,0)).2)=b5
  generalize ((cs.getD i (0,0)).2==(cs.getD (jB cs i) (0,0)).2)=b6
  generalize decide ((cs.getD i (0,0)).1>(cs.getD (jB cs i) (0,0)).1)=b7
  cases b1<;>cases b2<;>cases b3<;>cases b4<;>cases b5<;>cases b6<;>cases b7<;>rfl
 ·have a:=vu cs d cs.length (a1l _)
  have c:=vv cs d cs.length (a1l _);simp only[sd.l0];rw[a0i (show¬(cs.length:Int)<((cs.map (·.1)).length:Int) by simp),a0b (show(0:Int)<=(jA cs cs.length:Int) by omega),a0b (show(0:Int)<=(jB cs cs.length:Int) by omega)];simp only[ah,af,a0g,ol cs a,om cs a,ol cs c,om cs c,aa,eA];unfold Iw
  generalize decide ((cs.getD (jA cs cs.length) (0,0)).2>0)=b1
  generalize decide ((cs.getD (jB cs cs.length) (0,0)).2<0)=b2
  generalize decide ((cs.getD (jA cs cs.length) (0,0)).2<0)=b3
  generalize decide ((cs.getD (jB cs cs.length) (0,0)).2>0)=b4
  cases b1<;>cases b2<;>cases b3<;>cases b4<;>rfl
def A6:(r:List Int)->(x:Int)->(r.foldl (λm y=>if y<m then y else m) x=x\/r.foldl (λm y=>if y<m then y else m) x∈r)/\r.foldl (λm y=>if y<m then y else m) x<=x/\∀y∈r,r.foldl (λm y=>if y<m then y else m) x<=y
 |[],x=>by simp
 |z::r,x=>by
  simp only[a1u];obtain⟨h1,a,b⟩:=A6 r (if z<x then z else x)
  generalize r.foldl (λm y=>if y<m then y else m) (if z<x then z else x)=v at h1 a b
  refine⟨?_,?_,λy hy=> ?_⟩
  ·rcases h1 with h1|h1
   ·by_cases h:z<x
    ·rw[a0e h]at h1;rw[h1];exact .inr (by simp)
    ·rw[a0c h]at h1;exact .inl h1
   ·exact .inr (by simp[h1])
  ·split at a<;>omega
  ·rcases a1s.1 hy with rfl|hy
   ·split at a<;>omega
   ·exact b y hy
def A7:(r:List Int)->(x:Int)->(r.foldl (λm y=>if y>m then y else m) x=x\/r.foldl (λm y=>if y>m then y else m) x∈r)/\x<=r.foldl (λm y=>if y>m then y else m) x/\∀y∈r,y<=r.foldl (λm y=>if y>m then y else m) x
 |[],x=>by simp
 |z::r,x=>by
  simp only[a1u];obtain⟨h1,a,b⟩:=A7 r (if z>x then z else x)
  generalize r.foldl (λm y=>if y>m then y else m) (if z>x then z else x)=v at h1 a b
  refine⟨?_,?_,λy hy=> ?_⟩
  ·rcases h1 with h1|h1
   ·by_cases h:z>x
    ·rw[a0e h]at h1;rw[h1];exact .inr (by simp)
    ·rw[a0c h]at h1;exact .inl h1
   ·exact .inr (by simp[h1])
  ·split at a<;>omega
  ·rcases a1s.1 hy with rfl|hy
   ·split at a<;>omega
   ·exact b y hy
def oW {l:List Int} (h:l≠[]):sk l∈l/\∀y∈l,sk l<=y:=by
 cases l with
 |nil=>exact absurd rfl h
 |cons x r=>
  obtain⟨h1,a,b⟩:=A6 r x;refine⟨?_,λy hy=> ?_⟩
  ·rcases h1 with h1|h1
   ·show List.foldl _ x r∈_;rw[h1];simp
   ·exact a2z _ h1
  ·rcases a1s.1 hy with rfl|hy
   ·exact a
   ·exact b y hy
def oX {l:List Int} (h:l≠[]):sm l∈l/\∀y∈l,y<=sm l:=by
 cases l with
 |nil=>exact absurd rfl h
 |cons x r=>
  obtain⟨h1,a,b⟩:=A7 r x;refine⟨?_,λy hy=> ?_⟩
  ·rcases h1 with h1|h1
   ·show List.foldl _ x r∈_;rw[h1];simp
   ·exact a2z _ h1
  ·rcases a1s.1 hy with rfl|hy
   ·exact a
   ·exact b y hy
def CM {l:List Int} {v:Int} (h:v∈l) (a:∀y∈l,v<=y):sk l=v:=by
 obtain⟨b,c⟩:=oW (l:=l) (λe=>by rw[e]at h;cases h);have:=c v h;have:=a _ b;omega
def CN {l:List Int} {v:Int} (h:v∈l) (a:∀y∈l,y<=v):sm l=v:=by
 obtain⟨b,c⟩:=oX (l:=l) (λe=>by rw[e]at h;cases h);have:=c v h;have:=a _ b;omega
def Hp {l a:List Int} (h:∀x,x∈l↔x∈a):sk l=sk a:=by
 by_cases e:l=[]
 ·subst e
  have:a=[]:=a3p.2 λx b=>by have:=(h x).2 b;cases this
  rw[this]
 ·obtain⟨c,d⟩:=oW e
  exact(CM ((h _).1 c) λy f=>d y ((h y).2 f)).symm
def Hq {l a:List Int} (h:∀x,x∈l↔x∈a):sm l=sm a:=by
 by_cases e:l=[]
 ·subst e
  have:a=[]:=a3p.2 λx b=>by have:=(h x).2 b;cases this
  rw[this]
 ·obtain⟨c,d⟩:=oX e
  exact(CN ((h _).1 c) λy f=>d y ((h y).2 f)).symm
def ig (cs:List (Int×Int)):List Int:=(cs.filter λp=>p.2==0).map (·.1)
def sq (cs:List (Int×Int)):Bool:=cs.any λp=>decide (p.2<0)
def su (cs:List (Int×Int)):Bool:=cs.any λp=>decide (p.2>0)
def EH:(cs:List (Int×Int))->(c:iI)->cs.foldl cL c=(c.1++ig cs,c.2.1||sq cs,c.2.2.1||su cs,())
 |[],c=>by simp[ig,sq,su]
 |p::cs,c=>by
  rw[a1u,EH cs (cL c p)];unfold cL ig sq su;simp only[List.any_cons,a5y];by_cases d:p.2<0
  ·have b:¬p.2>0:=by omega
   have a:¬p.2=0:=by omega
   simp[d,b,a]
  ·by_cases b:p.2>0
   ·have a:¬p.2=0:=by omega
    simp[d,b,a]
   ·have a:p.2=0:=by omega
    simp[d,b,a]
def i7 (cs:List (Int×Int)) (a:Int):ej cs a=jx (ig cs) (sq cs) (su cs) a:=by
 unfold ej;rw[EH];simp
def fK {cs:List (Int×Int)} {x:Int}:x∈ig cs↔(x,0)∈cs:=by
 unfold ig;simp only[a4o,a4t,a2w];constructor
 ·rintro⟨p,⟨a,b⟩,rfl⟩
  have:p=(p.1,0):=by rw[<-b]
  rwa [this]at a
 ·intro h
  exact⟨(x,0),⟨h,rfl⟩,rfl⟩
def pD {l b:List Int} (h:∀x,x∈l↔x∈b):l.isEmpty=b.isEmpty:=by
 cases l with
 |nil=>
  have:b=[]:=a3p.2 λx c=>by have:=(h x).2 c;cases this
  rw[this]
 |cons a r=>
  cases b with
  |nil=>exact absurd ((h a).1 (by simp)) (by simp)
  |cons _ _=>rfl
def rc {cs a:List (Int×Int)} (h:∀p,p∈cs↔p∈a) (e:Int):ej cs e=ej a e:=by
 rw[i7,i7];have f:sq cs=sq a:=by
  unfold sq;rw[a4g];simp only[a3m];exact⟨λ⟨p,c,d⟩=>⟨p,(h p).1 c,d⟩,λ⟨p,c,d⟩=>⟨p,(h p).2 c,d⟩⟩
 have g:su cs=su a:=by
  unfold su;rw[a4g];simp only[a3m];exact⟨λ⟨p,c,d⟩=>⟨p,(h p).1 c,d⟩,λ⟨p,c,d⟩=>⟨p,(h p).2 c,d⟩⟩
 have i:∀x,x∈ig cs↔x∈ig a:=λx=>by rw[fK,fK,h]
 have b:∀(z:List Int) x,x∈ig cs++z↔x∈ig a++z:=λz x=>by rw[a0l,a0l,i]
 unfold jx;rw[f,g,pD (b _),pD (b _),Hp (b _),Hq (b _)]
def sw (p q:Int×Int):uf p q=true↔(p.2<q.2\/p.2=q.2/\p.1<q.1):=by
 unfold uf;simp only[a4e,a0f,a0u,a2w]
def sx (p q:Int×Int):ug p q=true↔(p.2>q.2\/p.2=q.2/\p.1>q.1):=by
 unfold ug;simp only[a4e,a0f,a0u,a2w]
def EI (cs:List (Int×Int)):(i j:Nat)->j<i->¬uf (cs.getD j (0,0)) (cs.getD (jA cs i) (0,0))=true
 |0,_,h=>by omega
 |i+1,j,h=>by
  have ih:=EI cs i;unfold jA
  cases hb:uf (cs.getD i (0,0)) (cs.getD (jA cs i) (0,0))with
  |false=>
   simp only[a1q];by_cases e:j=i
   ·subst e;rw[hb];simp
   ·exact ih j (by omega)
  |true=>
   simp only[a0z];by_cases e:j=i
   ·subst e;rw[sw];omega
   ·have a:=ih j (by omega)
    rw[sw]at a hb⊢;omega
def EJ (cs:List (Int×Int)):(i j:Nat)->j<i->¬ug (cs.getD j (0,0)) (cs.getD (jB cs i) (0,0))=true
 |0,_,h=>by omega
 |i+1,j,h=>by
  have ih:=EJ cs i;unfold jB
  cases hb:ug (cs.getD i (0,0)) (cs.getD (jB cs i) (0,0))with
  |false=>
   simp only[a1q];by_cases e:j=i
   ·subst e;rw[hb];simp
   ·exact ih j (by omega)
  |true=>
   simp only[a0z];by_cases e:j=i
   ·subst e;rw[sx];omega
   ·have a:=ih j (by omega)
    rw[sx]at a hb⊢;omega
def Ix (cs:List (Int×Int)):(i:Nat)->i<=cs.length->Ow cs i=cond ((cs.take i).any λp=>p.2 !=0) 4 0
 |0,_=>by simp[Ow]
 |i+1,h=>by
  have a:i<cs.length:=by omega
  unfold Ow;rw[Ix cs i (by omega),a2e a,a8k];have:cs.getD i (0,0)=cs[i]:=by simp[List.getD,a]
  rw[this];simp only[List.any_cons,List.any_nil,a8v]
  cases (cs.take i).any λp=>p.2 !=0<;>cases cs[i].2 !=0<;>rfl
def EK {cs:List (Int×Int)} {i:Nat} (h:i<cs.length):cs.getD i (0,0)∈cs:=by
 have:cs.getD i (0,0)=cs[i]:=by simp[List.getD,h]
 rw[this];exact a0h h
def OY:dg 0 4=4:=by unfold dg;decide
def Hr (cs:List (Int×Int)) (C:0<cs.length) (D:∀p∈cs,ay p.1):Iw cs=ej cs 0:=by
 have f:=EK (vu cs C cs.length (a1l _));have l:=EK (vv cs C cs.length (a1l _));have b:∀q∈cs,¬(q.2<(cs.getD (jA cs cs.length) (0,0)).2\/q.2=(cs.getD (jA cs cs.length) (0,0)).2/\q.1<(cs.getD (jA cs cs.length) (0,0)).1):=λq v=>by
  obtain⟨j,o,rfl⟩:=a4c v;have:=EI cs cs.length j o;rw[sw]at this;have e:cs.getD j (0,0)=cs[j]:=by simp[List.getD,o]
  rwa [e]at this
 have a:∀q∈cs,¬(q.2>(cs.getD (jB cs cs.length) (0,0)).2\/q.2=(cs.getD (jB cs cs.length) (0,0)).2/\q.1>(cs.getD (jB cs cs.length) (0,0)).1):=λq v=>by
  obtain⟨j,o,rfl⟩:=a4c v;have:=EJ cs cs.length j o;rw[sx]at this;have e:cs.getD j (0,0)=cs[j]:=by simp[List.getD,o]
  rwa [e]at this
 have r:=Ix cs cs.length (a1l _);rw[a1f]at r;rw[i7];unfold Iw jx;rw[r]
 generalize cs.getD (jA cs cs.length) (0,0)=p at f b⊢
 generalize cs.getD (jB cs cs.length) (0,0)=q at l a⊢
 have s:(cs.any λp=>p.2 !=0)=(sq cs||su cs):=by
  rw[a4g];unfold sq su;simp only[a4e,a3m,a0u,bne_iff_ne];constructor
  ·rintro⟨x,g,t⟩
   rcases Int.lt_or_gt_of_ne t with h|h
   ·exact .inl ⟨x,g,h⟩
   ·exact .inr ⟨x,g,h⟩
  ·rintro(⟨x,g,t⟩|⟨x,g,t⟩)<;>exact⟨x,g,by omega⟩
 rw[s,OY];have c:sq cs=decide (p.2<0):=by
  rw[a4g];unfold sq;simp only[a3m,a0u];exact⟨λ⟨x,g,t⟩=>by have:=b x g;omega,λh=>⟨p,f,h⟩⟩
 have i:su cs=decide (q.2>0):=by
  rw[a4g];unfold su;simp only[a3m,a0u];exact⟨λ⟨x,g,t⟩=>by have:=a x g;omega,λh=>⟨q,l,h⟩⟩
 have E:p.2<=q.2:=by have:=a p f;omega
 by_cases c1:p.2>0
 ·
  have w:ig cs=[]:=a3p.2 λx z=>by have:=b _ (fK.1 z);simp only at this;omega
  rw[c,w,a0b c1,a0i (show¬p.2<0 by omega)];simp
 ·by_cases c2:q.2<0
  ·have w:ig cs=[]:=a3p.2 λx z=>by have:=a _ (fK.1 z);simp only at this;omega
   rw[c,i,w,a0b c2,a0i (show¬q.2>0 by omega)];simp
  ·have k:sk (ig cs++cond (sq cs) [-9223372036854775808] [])=cond (decide (p.2<0)) (-9223372036854775808) p.1/\(ig cs++cond (sq cs) [-9223372036854775808] []).isEmpty=false:=by
    rw[c];by_cases u:p.2<0
    ·rw[a0b u]
     simp only[a0z];refine⟨CM (by simp) λy hy=> ?_,by simp⟩;rcases a0l.1 hy with hy|hy
     ·exact(D _ (fK.1 hy)).1
     ·simp at hy;omega
    ·have F:p∈cs:=f
     have A:p=(p.1,0):=by
      have:p.2=0:=by omega
      rw[<-this]
     rw[a0i u];simp only[a1q,a2b];have m:p.1∈ig cs:=fK.2 (by rw[<-A];exact F);refine⟨CM m λy hy=> ?_,by cases h:ig cs;rw[h]at m;cases m;rfl⟩;have:=b _ (fK.1 hy);simp only at this;omega
   have d:sm (ig cs++cond (su cs) [9223372036854775807] [])=cond (decide (q.2>0)) 9223372036854775807 q.1/\(ig cs++cond (su cs) [9223372036854775807] []).isEmpty=false:=by
    rw[i];by_cases u:q.2>0
    ·rw[a0b u]
     simp only[a0z];refine⟨CN (by simp) λy hy=> ?_,by simp⟩;rcases a0l.1 hy with hy|hy
     ·exact(D _ (fK.1 hy)).2
     ·simp at hy;omega
    ·have B:q=(q.1,0):=by
      have:q.2=0:=by omega
      rw[<-this]
     rw[a0i u];simp only[a1q,a2b];have n:q.1∈ig cs:=fK.2 (by rw[<-B];exact l);refine⟨CN n λy hy=> ?_,by cases h:ig cs;rw[h]at n;cases n;rfl⟩;have:=a _ (fK.1 hy);simp only at this;omega
   rw[k.1,k.2,d.1,d.2,a0i c1,a0i c2]
def uh (k:Nat) (O:Int) (f:Int->Int->Int×Int):Prop:=∀x y,ay x->ay y->CA k (O,x,y,())=some (((f x y).1,(f x y).2,()),((),(),(),()))/\ay (f x y).1
def Ox (k:Nat):uh k 43 gz:=λx y a b=>⟨by simp[CA,Hf k a b,gz],i6 _⟩
def Oy (k:Nat):uh k 45 fF:=λx y a b=>⟨by simp[CA,xS k a b,fF],i6 _⟩
def Oz (k:Nat):uh k 42 gC:=λx y a b=>⟨by simp[CA,Hi k a b,gC],i6 _⟩
def Iy (k:Nat):uh k 47 d8:=λx y a b=>⟨by simp[CA,Hl k a],by
 unfold d8;split
 ·simp[ay]
 ·exact i6 _⟩
def eR (op:Int->Int->Int×Int) (a b:bo):List (Int×Int):=[op a.1 b.1,op a.2.1 b.1,op a.1 b.2.1,op a.2.1 b.2.1]
def M8 {k:Nat} (p:5<=k) {O:Int} {f:Int->Int->Int×Int} (l:uh k O f) (a b:bo) (m:bc a) (n:bc b) (d:List bo) (c:ir) (e os:List Int) (q:e.length<100) (s:os.length<100) (i:Int)
 (h:_->Option ((ir×Unit)×eX)):
 aG (xr.l2 k h) k (O,d,(a.1,a.2.1,()),(c.1,c.2.1,c.2.2.1,c.2.2.2.1,()),e,os,i,(b.1,b.2.1,()),0,())=h (O,d,(a.1,a.2.1,()),(c.1,c.2.1,c.2.2.1,c.2.2.2.1,()),e++(eR f a b).map (·.1),os++(eR f a b).map (·.2),wrap .i64 (i+1),()):=by
 suffices key:aG (xr.l2 k h) k (O,d,(a.1,a.2.1,()),(c.1,c.2.1,c.2.2.1,c.2.2.2.1,()),e++[],os++[],i,(b.1,b.2.1,()),0,())=h (O,d,(a.1,a.2.1,()),(c.1,c.2.1,c.2.2.1,c.2.2.2.1,()),e++(eR f a b).map (·.1),os++(eR f a b).map (·.2),wrap .i64 (i+1),()) by
  rwa [a2b,a2b]at key
 refine aR (b:=xr.l2 k h) (f:=k) (r:=h (O,d,(a.1,a.2.1,()),(c.1,c.2.1,c.2.2.1,c.2.2.2.1,()),e++(eR f a b).map (·.1),os++(eR f a b).map (·.2),wrap .i64 (i+1),())) (λj=>(O,d,(a.1,a.2.1,()),(c.1,c.2.1,c.2.2.1,c.2.2.2.1,()),e++((eR f a b).take j).map (·.1),os++((eR f a b).take j).map (·.2),i,(b.1,b.2.1,()),(j:Int),())) 4 ?_ ?_ (by omega)
 ·intro G j o
  match j,o with
  |0,_=>
   have g:=(l a.1 b.1 m.1 n.1).1;simp only[xr.l2];simp[g,am,eR,ak];rw[a0e (by unfold ai;omega),a0e (by unfold ai;omega)]
  |1,_=>
   have g:=(l a.2.1 b.1 m.2 n.1).1;simp only[xr.l2];simp[g,am,eR,ak];rw[a0e (by unfold ai;omega),a0e (by unfold ai;omega)]
  |2,_=>
   have g:=(l a.1 b.2.1 m.1 n.2).1;simp only[xr.l2];simp[g,am,eR,ak];rw[a0e (by unfold ai;omega),a0e (by unfold ai;omega)]
  |3,_=>
   have g:=(l a.2.1 b.2.1 m.2 n.2).1;simp only[xr.l2];simp[g,am,eR,ak];rw[a0e (by unfold ai;omega),a0e (by unfold ai;omega)]
 ·intro G
  simp[xr.l2,eR]
def oY (f:Int->Int->Int×Int) (a:bo):(l:List bo)->(l.flatMap (eR f a)).length=4*l.length
 |[]=>rfl
 |x::l=>by rw[a6m,a0m,oY f a l,a0o];simp only[eR,a0o,a0q];omega
def KS {k:Nat} (cs:List (Int×Int)) (c:cs.length<1000) (a:cs.length<k) (b:∀p∈cs,ay p.1):sd k (cs.map (·.1),cs.map (·.2),())=some ((ej cs 0,()),((),(),())):=by
 cases cs with
 |nil=>simp[sd,ej,jx]
 |cons p r=>rw[KR (p::r) (by simp) (by omega) a,Hr (p::r) (by simp) b]
def Hs {k:Nat} {O:Int} {f:Int->Int->Int×Int} (c:uh k O f) {a b:bo} (d:bc a) (e:bc b):∀p∈eR f a b,ay p.1:=by
 intro p g;simp only[eR,a1s,a5z,a8n]at g;rcases g with rfl|rfl|rfl|rfl
 ·exact(c _ _ d.1 e.1).2
 ·exact(c _ _ d.2 e.1).2
 ·exact(c _ _ d.1 e.2).2
 ·exact(c _ _ d.2 e.2).2
def M9 {k:Nat} (q:50<=k) {O:Int} {f:Int->Int->Int×Int} (e:uh k O f) (a:bo) (g:bc a) (l:List bo) (r:l.length<=4) (j:∀x∈l,bc x):xr k (O,a,l,())=some ((ej (l.flatMap (eR f a)) 0,()),((),(),(),())):=by
 simp only[xr];refine aR (b:=xr.l0 k) (λi=>(O,l,(a.1,a.2.1,()),(0,0,false,0,()),((l.take i).flatMap (eR f a)).map (·.1),((l.take i).flatMap (eR f a)).map (·.2),(i:Int),())) l.length (λG i c=> ?_) (λG=> ?_) (by omega)
 ·simp only[xr.l0]
  rw[a0b (show(i:Int)<(l.length:Int) by omega),a0b (show(0:Int)<=(i:Int) by omega)];simp only[ah,a0g,a0a c,aa];have m:((l.take i).flatMap (eR f a)).length<=16:=by rw[oY,a1m];omega
  have h:=M8 (k:=k) (by omega) e a l[i] g (j _ (a0h c)) l (0,0,false,0,()) (((l.take i).flatMap (eR f a)).map (·.1)) (((l.take i).flatMap (eR f a)).map (·.2)) (by simp only[a3a];omega) (by simp only[a3a];omega) (i:Int) G;rw[h,au (show i<4611686018427387904 by omega)]
  congr 1
  rw[a2e c,a6d,a3d,a3d];simp
 ·simp only[xr.l0]
  rw[a0i (show¬(l.length:Int)<(l.length:Int) by omega),af,a1f];have n:=KS (k:=k) (l.flatMap (eR f a)) (by rw[oY];omega) (by rw[oY];omega) (λp d=>by
   obtain⟨x,o,d⟩:=a3s.1 d;exact Hs e g (j x o) p d)
  rw[n];simp only[aa]
def xX (f:Int->Int->Int×Int) (a b:bo) (p:Int×Int):p∈eR f a b↔p∈dK f a b:=by
 simp only[eR,dK,a1s,a5z,a8n];constructor<;>(rintro(h|h|h|h)<;>simp[h])
def CO {k:Nat} (c:50<=k) {O:Int} {f:Int->Int->Int×Int} (d:uh k O f) {a b:bo} (e:bc a) (g:bc b):zQ k (O,a,b,())=some ((jz f a b,()),((),(),(),())):=by
 simp only[zQ,ft,aa,jz,bG]
 cases bt a
 ·simp[jy]
 ·cases bt b
  ·simp[jy]
  ·have h:=M9 (k:=k) c d a e [b] (by simp) (by simpa using g)
   have i:ej ([b].flatMap (eR f a)) 0=ej (dK f a b) 0:=rc (λp=>by simpa using xX f a b p) 0;rw[i]at h;simp[h]
def CP {k:Nat} (c:50<=k) {a b:bo} (d:bc a) (e:bc b):J1 k (a,b,())=some ((jz gz a b,()),((),(),())):=by
 simp only[J1,CO c (Ox k) d e,aa]
def rd {k:Nat} (c:50<=k) {a b:bo} (d:bc a) (e:bc b):Ev k (a,b,())=some ((jz fF a b,()),((),(),())):=by
 simp only[Ev,CO c (Oy k) d e,aa]
def CQ {k:Nat} (c:50<=k) {a b:bo} (d:bc a) (e:bc b):J2 k (a,b,())=some ((jz gC a b,()),((),(),())):=by
 simp only[J2,CO c (Oz k) d e,aa]
def CR {k:Nat} (b:50<=k) {a:bo} (c:bc a):J8 k (a,())=some ((jz fF (0,0,()) a,()),((),())):=by
 simp only[J8,rd b cx c,aa]
def re (k:Nat) (b:bo):CB k (b,())=some ((cB b,()),((),())):=by
 simp only[CB,cB,ak];have a:(if(-1:Int)<b.2.1 then(-1)else b.2.1)=if b.2.1< -1 then b.2.1 else-1:=by split<;>split<;>omega
 have c:(if(1:Int)>b.1 then 1 else b.1)=if b.1>1 then b.1 else 1:=by split<;>split<;>omega
 rw[a,c];by_cases c1:b.1<0<;>by_cases c2:b.2.1>0<;>simp[c1,c2,ai]
def PN:dg 1 4=5:=by unfold dg;decide
def PO:dg 4 1=5:=by unfold dg;decide
def PP:dg 0 1=1:=by unfold dg;decide
def Na (l:List Int) (a b:Bool):jx l a b 1=((jx l a b 0).1,(jx l a b 0).2.1,(jx l a b 0).2.2.1,dg (jx l a b 0).2.2.2.1 1,()):=by
 unfold jx;rw[PN,OY]
 cases ((l++cond a [-9223372036854775808] []).isEmpty||(l++cond b [9223372036854775807] []).isEmpty)<;>cases (a||b)<;>simp[PO,PP]
def KT (cs:List (Int×Int)):ej cs 1=((ej cs 0).1,(ej cs 0).2.1,(ej cs 0).2.2.1,dg (ej cs 0).2.2.2.1 1,()):=by
 rw[i7,i7,Na]
def CS {k:Nat} (e:50<=k) {a b:bo} (f:bc a) (g:bc b):J4 k (a,b,())=some ((q9 a b,()),((),(),())):=by
 simp only[J4,ft,aa,q9,bG]
 cases bt a
 ·simp[jy]
 ·cases bt b
  ·simp[jy]
  ·have h:=M9 (k:=k) e (Iy k) a f (cB b) (by have:=A4 b;omega) (mJ g)
   have c:ej ((cB b).flatMap (eR d8 a)) 0=ej (A5 a b) 0:=rc (λp=>by
    unfold A5;simp only[a3s];exact⟨λ⟨x,d,c⟩=>⟨x,d,(xX d8 a x p).1 c⟩,λ⟨x,d,c⟩=>⟨x,d,(xX d8 a x p).2 c⟩⟩) 0
   rw[c]at h;simp only[a0j,af,a0d,re,aa,h,mI,a3v,a0z];unfold pC
   cases eG b 0
   ·simp only[af,a1q]
   ·simp only[ah,a0z,KT]
    rfl
def zZ (b:bo):Int:=wrap .i64 (wrap .u64 ((if cQ b.2.1>cQ b.1 then cQ b.2.1 else cQ b.1)-1))
def rg (a b:bo):ir:=cond (bG a b) (cond (cB b).isEmpty (0,0,false,pC b,()) (cond (a.1==a.2.1&& b.1==b.2.1) (EG a.1 b.1,EG a.1 b.1,true,pC b,()) (cond (decide (a.1<0)) (if a.1>wrap .i64 (0-zZ b)then a.1 else wrap .i64 (0-zZ b)) 0,cond (decide (a.2.1>0)) (if a.2.1<zZ b then a.2.1 else zZ b) 0,true,pC b,()))) jy
def jC (k:Nat) (n:Int):Iq k (n,())=some (((n,n,()),()),((),())):=rfl
def EL (l:List bo):((l.length:Int)==0)=l.isEmpty:=by cases l<;>simp;omega
def CT {k:Nat} {a b:bo} (c:bc b):JR k (a,b,())=some ((rg a b,()),((),(),())):=by
 simp only[JR,fS,aa,rg]
 cases ho:bG a b
 ·simp[jy]
 ·have d:bt b=true:=by unfold bG at ho;simp only[a0f]at ho;exact ho.2
  simp only[a0j,af,ue c d,aa,a0z,EL,Hn,jC,mF k c.1,mF k c.2]
  cases (cB b).isEmpty
  ·cases h1:(a.1==a.2.1)<;>cases h2:(b.1==b.2.1)<;>cases h3:decide (a.1<0)<;>cases h4:decide (a.2.1>0)<;>simp only[ah,af,a0d,a8u,a8r,a3v,a0z,a1q]<;>rfl
  ·simp only[ah,a0z]
def CU {k:Nat} {a b:bo} (c:bc b):J5 k (a,b,())=some ((rg a b,()),((),(),())):=by
 simp only[J5,ft,aa,rg,bG]
 cases bt a
 ·simp[jy]
 ·cases bt b
  ·simp[jy]
  ·simp only[a0j,af,a0d,mI,aa,re,EL,Hm,mE k c.1,mE k c.2,a3v,a0z]
   unfold pC
   cases eG b 0<;>cases (cB b).isEmpty<;>cases h1:(a.1==a.2.1)<;>cases h2:(b.1==b.2.1)<;>cases h3:decide (a.1<0)<;>cases h4:decide (a.2.1>0)<;>simp only[ah,af,a0d,a8u,a8r,a3v,a0z,a1q]<;>rfl
def sy {A R:Type} {b:(A->Option R)->A->Option R} {k:Nat} (a:0<k) (x:A):aG b k x=b (aG b (k-1)) x:=by
 cases k with
 |zero=>omega
 |succ n=>rfl
def eH (op:Int) (a b:bo):Bool:=
 if op=13 then decide (a.1<b.2.1)else if op=14 then decide (a.1<=b.2.1)else if op=15 then decide (a.1<=b.2.1)&& decide (b.1<=a.2.1)
 else if op=16 then a.1 !=a.2.1||(b.1 !=b.2.1||a.1 !=b.1)else if op=17 then decide (b.1<a.2.1)else decide (b.1<=a.2.1)
def xY (op:Int) (a b:bo):bo:=cond (decide (13<=op/\op<=18)&& bG a b) (cond (eH (31-op) a b) 0 1,cond (eH op a b) 1 0,()) (0,0,())
def xZ {k:Nat} (c:2<=k) {op:Int} (d:13<=op) (g:op<=18) (a b:bo):kV k (op,a,b,())=some ((eH op a b,()),((),(),(),())):=by
 have h:op=13\/op=14\/op=15\/op=16\/op=17\/op=18:=by omega
 unfold kV;rw[sy (by omega)];rcases h with rfl|rfl|rfl|rfl|rfl|rfl
 ·simp[kV.f,eH]
 ·simp[kV.f,eH]
 ·simp only[kV.f,eH,eA]
  cases decide (a.1<=b.2.1)<;>rfl
 ·simp only[kV.f,eH,eA]
  cases (a.1 !=a.2.1)<;>cases (b.1 !=b.2.1)<;>rfl
 ·have e:aG (kV.f k) (k-1) (13,b,a,())=some ((decide (b.1<a.2.1),()),((),(),(),())):=by
   rw[sy (by omega)];simp[kV.f]
  simp[kV.f,qX,eH,e]
 ·have e:aG (kV.f k) (k-1) (14,b,a,())=some ((decide (b.1<=a.2.1),()),((),(),(),())):=by
   rw[sy (by omega)];simp[kV.f]
  simp[kV.f,qX,eH,e]
def ui (k:Nat) {op:Int} (a:13<=op) (b:op<=18):xn k (op,())=some ((31-op,()),((),())):=by
 have h:op=13\/op=14\/op=15\/op=16\/op=17\/op=18:=by omega
 rcases h with rfl|rfl|rfl|rfl|rfl|rfl<;>simp[xn]
def Iz {op:Int} (e:13<=op) (f:op<=18) {a b:bo} (c:bG a b=true) (d:eH (31-op) a b=false):eH op a b=true:=by
 unfold bG bt at c;simp only[a0f,a0u]at c;have h:op=13\/op=14\/op=15\/op=16\/op=17\/op=18:=by omega
 rcases h with rfl|rfl|rfl|rfl|rfl|rfl<;>simp[eH]at d⊢<;>omega
def ya {k:Nat} (c:2<=k) (op:Int) (a b:bo):JS k (op,a,b,())=some ((xY op a b,()),((),(),(),())):=by
 simp only[JS,dC,fS,aa,xY];by_cases h:13<=op/\op<=18
 ·rw[a0b h]
  cases ho:bG a b
  ·simp
  ·simp only[a0j,af,a0d,ui k h.1 h.2,aa,xZ c h.1 h.2,xZ c (show 13<=31-op by omega) (show 31-op<=18 by omega),a3v,a0z,MQ,jC]
   cases h3:eH (31-op) a b
   ·rw[Iz h.1 h.2 ho h3]
    simp
   ·cases eH op a b<;>simp
 ·rw[a0i h]
  simp
def EM (k:Nat) {op:Int} (f:13<=op) (g:op<=18) {a b:bo} (d:bG a b=true):uS k (op,a,b,())=some ((!eH (31-op) a b,()),((),(),(),())):=by
 unfold bG bt at d;simp only[a0f,a0u]at d;have h:op=13\/op=14\/op=15\/op=16\/op=17\/op=18:=by omega
 rcases h with rfl|rfl|rfl|rfl|rfl|rfl
 ·simp[uS,eH]
  by_cases c:a.2.1<b.1<;>simp[c]<;>omega
 ·simp[uS,eH]
  by_cases c:a.2.1<=b.1<;>simp[c]<;>omega
 ·simp only[uS,eH,cg]
  by_cases c:a.1=a.2.1
  ·have e:((a.1==b.1)&& ((a.2.1==b.2.1)&& true))= !(a.1 !=a.2.1||(b.1 !=b.2.1||a.1 !=b.1)):=by
    rw[a4g];simp;omega
   rw[e,a0e c];simp
  ·simp[c]
 ·simp only[uS,eH,cg]
  by_cases c:a.2.1<b.1
  ·simp[c]<;>omega
  ·by_cases c2:b.2.1<a.1<;>simp[c,c2]<;>omega
 ·simp[uS,eH]
  by_cases c:b.2.1<a.1<;>simp[c]<;>omega
 ·simp[uS,eH]
  by_cases c:b.2.1<=a.1<;>simp[c]<;>omega
def EN (k:Nat) {op:Int} (a:13<=op) (b:op<=18):xu k (op,())=some ((31-op,()),((),())):=by
 have h:op=13\/op=14\/op=15\/op=16\/op=17\/op=18:=by omega
 rcases h with rfl|rfl|rfl|rfl|rfl|rfl<;>simp[xu,am]
def EO (k:Nat) (b:Bool):AQ k (b,())=some ((cond b 1 0,()),((),())):=by
 unfold AQ
 cases b<;>simp
def yb {k:Nat} (op:Int) (a b:bo):J6 k (op,a,b,())=some ((xY op a b,()),((),(),(),())):=by
 simp only[J6,qZ,jP,ft,aa,xY];by_cases h:13<=op/\op<=18
 ·rw[a0b h]
  cases ho:bG a b
  ·unfold bG at ho
   cases h1:bt a
   ·simp
   ·rw[h1]at ho
    simp only[a1i]at ho;rw[ho];simp
  ·have c:=ho
   unfold bG at c;simp only[a0f]at c;have d:31-(31-op)=op:=by omega
   simp only[c.1,c.2,a0j,af,a0d,EM k h.1 h.2 ho,aa,EN k h.1 h.2,EM k (show 13<=31-op by omega) (show 31-op<=18 by omega) ho,EO,d,a3v,a0z]
   cases eH (31-op) a b<;>cases eH op a b<;>simp[am]
 ·rw[a0i h]
  simp
abbrev CV:=bo×Bool×Unit
def Ht:CV:=((0,0,()),false,())
def yc (c:bo):CV:=cond (bt c) (c,true,()) Ht
def IA (a:bo) (h:Int):CV:=yc (a.1,if h<a.2.1 then h else a.2.1,())
def IB (a:bo) (l:Int):CV:=yc (if l>a.1 then l else a.1,a.2.1,())
def mK (a b:bo):CV:=if b.1≠b.2.1\/b.1≠a.1/\b.1≠a.2.1 then(a,true,())else if a.1=a.2.1 then Ht else if b.1=a.1 then((a.1+1,a.2.1,()),true,())else((a.1,a.2.1-1,()),true,())
def kW (op:Int) (a b:bo):CV:=cond (decide (13<=op/\op<=18)&& bG a b)
 (
  if op=15 then dX a b else if op=16 then mK a b else if op=14 then IA a b.2.1 else if op=18 then IB a b.1
  else if op=13 then(if b.2.1= -9223372036854775808 then Ht else IA a (b.2.1-1))else(if b.1=9223372036854775807 then Ht else IB a (b.1+1))) Ht
def yd {a:bo} (b:bc a) (c:bt a=true) {h:Int} (d: -9223372036854775808<=h):dX a (-9223372036854775808,h,())=IA a h:=by
 have e:bt ((-9223372036854775808:Int),h,())=true:=a0b d;have f:ie a (-9223372036854775808,h,())=(a.1,if h<a.2.1 then h else a.2.1,()):=by
  unfold ie;simp only;rw[a0c (by have:=b.1.1;omega)]
 unfold dX bG IA yc;rw[c,e,f];rfl
def ye {a:bo} (b:bc a) (c:bt a=true) {l:Int} (d:l<=9223372036854775807):dX a (l,9223372036854775807,())=IB a l:=by
 have e:bt (l,(9223372036854775807:Int),())=true:=a0b d;have f:ie a (l,9223372036854775807,())=(if l>a.1 then l else a.1,a.2.1,()):=by
  unfold ie;simp only;rw[a0c (show¬(9223372036854775807<a.2.1) by have:=b.2.2;omega)]
 unfold dX bG IB yc;rw[c,e,f];rfl
def KU (k:Nat) {a b:bo} (i:bc a) (m:bc b) (j:bt a=true):JV k (a,b,())=some (mK a b,((),(),())):=by
 obtain⟨⟨a1,n⟩,o,p⟩:=i;have l:a.1<=a.2.1:=a0x j;unfold JV mK Ht;simp only[cg];by_cases c1:b.1=b.2.1
 ·have d:(b.1 !=b.2.1)=false:=by simp[c1]
  by_cases c2:b.1=a.1
  ·have f:¬(b.1≠b.2.1\/b.1≠a.1/\b.1≠a.2.1):=by omega
   have e:(b.1 !=a.1)=false:=by simp[c2]
   rw[a0c f];simp only[d,e,af,a0d];by_cases c:a.1=a.2.1
   ·rw[a0e c,a0e c]
   ·have w1:wrap .i64 (a.1+1)=a.1+1:=am (by omega) (by omega)
    rw[a0c c,a0e c2,a0c c,a0e c2,w1]
  ·have e:(b.1 !=a.1)=true:=by simp[c2]
   by_cases g:b.1=a.2.1
   ·have c:¬a.1=a.2.1:=by omega
    have w1:wrap .i64 (a.2.1-1)=a.2.1-1:=am (by omega) (by omega);have f:¬(b.1≠b.2.1\/b.1≠a.1/\b.1≠a.2.1):=by omega
    have h:(b.1 !=a.2.1)=false:=by simp[g]
    rw[a0c f];simp only[d,e,h,af,ah,a0d];rw[a0c c,a0c c2,a0c c,a0c c2,w1]
   ·have h:(b.1 !=a.2.1)=true:=by simp[g]
    rw[a0e (show b.1≠b.2.1\/b.1≠a.1/\b.1≠a.2.1 from .inr ⟨c2,g⟩)];simp only[d,e,h,af,ah,a0d]
 ·rw[a0e (show b.1≠b.2.1\/b.1≠a.1/\b.1≠a.2.1 from .inl c1)]
  have d:(b.1 !=b.2.1)=true:=by simp[c1]
  simp only[d,ah,a0d]
def jm (k:Nat) (op:Int) {a b:bo} (e:bc a) (f:bc b):Er k (op,a,b,())=some (kW op a b,((),(),(),())):=by
 simp only[Er,dC,fS,aa,kW];by_cases h:13<=op/\op<=18
 ·rw[a0b h]
  cases ho:bG a b
  ·simp[Ht]
  ·have c:=ho
   unfold bG at c;simp only[a0f]at c;simp only[a0j,af,a0d,a3v,a0z,cg,jw,aa,KU k e f c.1,yd e c.1 f.2.1,ye e c.1 f.1.2];by_cases c1:op=15
   ·rw[a0e c1,a0e c1]
   rw[a0c c1,a0c c1];by_cases c2:op=16
   ·rw[a0e c2,a0e c2]
   rw[a0c c2,a0c c2];by_cases g:op=14
   ·rw[a0e g,a0e g]
   rw[a0c g,a0c g];by_cases i:op=18
   ·rw[a0e i,a0e i]
   rw[a0c i,a0c i];by_cases j:op=13
   ·rw[a0e j,a0e j]
    by_cases d:b.2.1= -9223372036854775808
    ·rw[a0e d,a0e d];rfl
    ·have:=f.2
     rw[a0c d,a0c d,am (n:=b.2.1-1) (by have:=this.1;omega) (by have:=this.2;omega),yd e c.1 (by have:=this.1;omega)]
   ·rw[a0c j,a0c j]
    by_cases d:b.1=9223372036854775807
    ·rw[a0e d,a0e d];rfl
    ·have:=f.1
     rw[a0c d,a0c d,am (n:=b.1+1) (by have:=this.1;omega) (by have:=this.2;omega),ye e c.1 (by have:=this.2;omega)]
 ·rw[a0i h]
  simp[Ht]
def CW (c:bo):cond (!bt c) (some ((((0:Int),(0:Int),()),false,()),((),(),(),()))) (some ((c,true,()),((),(),(),())))=some (yc c,(((),(),(),()):Unit×Unit×Unit×Unit)):=by
 unfold yc Ht
 cases bt c<;>rfl
def Hu (k:Nat) {a b:bo} (q:bc a) (h:bt a=true):
 ((
  br k (b.1==b.2.1) (br k (a.1==a.2.1) (some (a.1==b.1,())) (some (false,()))) (some (false,())):Option (Bool×Unit)).bind λi=>
  br k i.1 (some ((((0:Int),(0:Int),()),false,()),((),(),(),())))
   ((
    br k (b.1==b.2.1) (some (a.1==b.1,())) (some (false,())):Option (Bool×Unit)).bind λj=>
    br k j.1
     ((
      br k (b.1==b.2.1) (some (a.2.1==b.1,())) (some (false,())):Option (Bool×Unit)).bind λl=>
      br k l.1
       (cond (!bt (wrap .i64 (a.1+1),wrap .i64 (a.2.1-1),())) (some ((((0:Int),(0:Int),()),false,()),((),(),(),()))) (some (((wrap .i64 (a.1+1),wrap .i64 (a.2.1-1),()),true,()),((),(),(),()))))
       (cond (!bt (wrap .i64 (a.1+1),a.2.1,())) (some ((((0:Int),(0:Int),()),false,()),((),(),(),()))) (some (((wrap .i64 (a.1+1),a.2.1,()),true,()),((),(),(),())))))
     ((
      br k (b.1==b.2.1) (some (a.2.1==b.1,())) (some (false,())):Option (Bool×Unit)).bind λm=>
      br k m.1
       (cond (!bt (a.1,wrap .i64 (a.2.1-1),())) (some ((((0:Int),(0:Int),()),false,()),((),(),(),()))) (some (((a.1,wrap .i64 (a.2.1-1),()),true,()),((),(),(),()))))
       (cond (!bt a) (some ((((0:Int),(0:Int),()),false,()),((),(),(),()))) (some ((a,true,()),((),(),(),())))))))=some (mK a b,(((),(),(),()):Unit×Unit×Unit×Unit)):=by
 obtain⟨⟨a1,s⟩,t,u⟩:=q;have r:a.1<=a.2.1:=a0x h;unfold mK Ht;by_cases c1:b.1=b.2.1
 ·have d:(b.1==b.2.1)=true:=by simp[c1]
  by_cases c2:b.1=a.1
  ·have n:¬(b.1≠b.2.1\/b.1≠a.1/\b.1≠a.2.1):=by omega
   have e:(a.1==b.1)=true:=by simp[c2]
   rw[a0c n];by_cases c:a.1=a.2.1
   ·have f:(a.1==a.2.1)=true:=by simp[c]
    rw[a0e c];simp only[d,e,f,ah,a0d]
   ·have f:(a.1==a.2.1)=false:=by simp[c]
    have g:(a.2.1==b.1)=false:=by rw[c2];simp;omega
    have w1:wrap .i64 (a.1+1)=a.1+1:=am (by omega) (by omega);have o:bt (a.1+1,a.2.1,())=true:=a0b (by simp only;omega);rw[a0c c,a0e c2];simp only[d,e,f,g,ah,af,a0d,w1,o,a0j,a1q]
  ·have e:(a.1==b.1)=false:=by simp;omega
   by_cases p:b.1=a.2.1
   ·have c:¬a.1=a.2.1:=by omega
    have n:¬(b.1≠b.2.1\/b.1≠a.1/\b.1≠a.2.1):=by omega
    have f:(a.1==a.2.1)=false:=by simp[c]
    have g:(a.2.1==b.1)=true:=by simp[p]
    have w1:wrap .i64 (a.2.1-1)=a.2.1-1:=am (by omega) (by omega);have o:bt (a.1,a.2.1-1,())=true:=a0b (by simp only;omega);rw[a0c n,a0c c,a0c c2];simp only[d,e,f,g,ah,af,a0d,w1,o,a0j,a1q]
   ·have g:(a.2.1==b.1)=false:=by simp;omega
    rw[a0e (show b.1≠b.2.1\/b.1≠a.1/\b.1≠a.2.1 from .inr ⟨c2,p⟩)]
    cases h3:(a.1==a.2.1)<;>simp only[d,e,g,ah,af,a0d,h,a0j,a1q]
 ·have d:(b.1==b.2.1)=false:=by simp[c1]
  rw[a0e (show b.1≠b.2.1\/b.1≠a.1/\b.1≠a.2.1 from .inl c1)];simp only[d,af,a0d,h,a0j,a1q]
def lC (k:Nat) (op:Int) {a b:bo} (e:bc a) (f:bc b):EA k (op,a,b,())=some (kW op a b,((),(),(),())):=by
 simp only[EA,qZ,jP,ft,aa,kW];by_cases h:13<=op/\op<=18
 ·rw[a0b h]
  cases h1:bt a
  ·simp[bG,h1,Ht]
  ·cases h2:bt b
   ·simp[bG,h1,h2,Ht]
   ·have g:bG a b=true:=by unfold bG;rw[h1,h2];rfl
    have i:op=13\/op=14\/op=15\/op=16\/op=17\/op=18:=by omega
    obtain⟨⟨j,l⟩,m,o⟩:=f;simp only[g,a0j,af,a0d,a3v,a0z,li,aa];rcases i with rfl|rfl|rfl|rfl|rfl|rfl
    ·simp only[cg,a2c,show¬(13:Int)=15 by omega,show¬(13:Int)=16 by omega,show¬(13:Int)=14 by omega,show¬(13:Int)=18 by omega,a1y]
     by_cases c:b.2.1= -9223372036854775808
     ·rw[a0e c,a0e c];rfl
     ·rw[a0c c,a0c c,am (n:=b.2.1-1) (by omega) (by omega),eA]
      exact CW _
    ·simp only[cg,a2c,show¬(14:Int)=13 by omega,show¬(14:Int)=15 by omega,show¬(14:Int)=16 by omega,a1y]
     rw[eA];exact CW _
    ·simp only[cg,a2c,show¬(15:Int)=13 by omega,show¬(15:Int)=14 by omega,show¬(15:Int)=17 by omega,show¬(15:Int)=18 by omega,a1y]
    ·rw[show((16:Int)==13)=false from rfl,show((16:Int)==14)=false from rfl,show((16:Int)==17)=false from rfl,show((16:Int)==18)=false from rfl,show((16:Int)==15)=false from rfl]
     simp only[af,show¬(16:Int)=15 by omega,a1y,a2c];have d:=Hu k (b:=b) e h1;simp only[<-eA k,h1,a0j,af]at d;exact d
    ·simp only[cg,a2c,show¬(17:Int)=13 by omega,show¬(17:Int)=14 by omega,show¬(17:Int)=15 by omega,show¬(17:Int)=16 by omega,show¬(17:Int)=18 by omega,a1y]
     by_cases c:b.1=9223372036854775807
     ·rw[a0e c,a0e c];rfl
     ·rw[a0c c,a0c c,am (n:=b.1+1) (by omega) (by omega),eA]
      exact CW _
    ·simp only[cg,a2c,show¬(18:Int)=13 by omega,show¬(18:Int)=14 by omega,show¬(18:Int)=15 by omega,show¬(18:Int)=16 by omega,show¬(18:Int)=17 by omega,a1y]
     rw[eA];exact CW _
 ·rw[a0i h]
  simp[Ht]
def nc (v:ir):Prop:=bc (v.1,v.2.1,())
def bC:ay 0:=by unfold ay;omega
def qg:nc jy:=⟨bC,bC⟩
def KV {l:List Int} (h:∀x∈l,ay x):ay (sk l):=by
 by_cases e:l=[]
 ·subst e;exact bC
 ·exact h _ (oW e).1
def KW {l:List Int} (h:∀x∈l,ay x):ay (sm l):=by
 by_cases e:l=[]
 ·subst e;exact bC
 ·exact h _ (oX e).1
def Hv {l:List Int} (h:∀x∈l,ay x) (a b:Bool) (c:Int):nc (jx l a b c):=by
 unfold jx
 cases ((l++cond a [-9223372036854775808] []).isEmpty||(l++cond b [9223372036854775807] []).isEmpty)
 ·refine⟨KV λx hx=> ?_,KW λx hx=> ?_⟩
  ·rcases a0l.1 hx with hx|hx
   ·exact h x hx
   ·cases a<;>simp at hx
    subst hx;unfold ay;omega
  ·rcases a0l.1 hx with hx|hx
   ·exact h x hx
   ·cases b<;>simp at hx
    subst hx;unfold ay;omega
 ·exact⟨bC,bC⟩
def uj {cs:List (Int×Int)} (h:∀p∈cs,ay p.1) (a:Int):nc (ej cs a):=by
 rw[i7];exact Hv (λx b=>h _ (fK.1 b)) _ _ _
def oZ {f:Int->Int->Int×Int} (c:∀x y,ay x->ay y->ay (f x y).1) {a b:bo} (d:bc a) (e:bc b):∀p∈dK f a b,ay p.1:=by
 intro p g;simp only[dK,a1s,a5z,a8n]at g;rcases g with rfl|rfl|rfl|rfl
 ·exact c _ _ d.1 e.1
 ·exact c _ _ d.1 e.2
 ·exact c _ _ d.2 e.1
 ·exact c _ _ d.2 e.2
def o4 {f:Int->Int->Int×Int} (c:∀x y,ay x->ay y->ay (f x y).1) {a b:bo} (d:bc a) (e:bc b):nc (jz f a b):=by
 unfold jz
 cases bG a b
 ·exact qg
 ·exact uj (oZ c d e) 0
def A8 (x y:Int) (_:ay x) (_:ay y):ay (gz x y).1:=i6 _
def o5 (x y:Int) (_:ay x) (_:ay y):ay (fF x y).1:=i6 _
def A9 (x y:Int) (_:ay x) (_:ay y):ay (gC x y).1:=i6 _
def Ba (x y:Int) (a:ay x) (b:ay y):ay (d8 x y).1:=((Iy 0) x y a b).2
def Hw {a b:bo} (d:bc a) (e:bc b):nc (q9 a b):=by
 unfold q9
 cases bG a b
 ·exact qg
 ·refine uj (λp c=> ?_) _
  obtain⟨x,f,c⟩:=a3s.1 c;exact oZ Ba d (mJ e x f) p c
def ij (n:Int):ay (wrap .i64 n):=by
 rw[IntKind.wrap_i64];unfold ay;omega
def Hx {a b:bo} (c:bc a):nc (rg a b):=by
 unfold rg
 cases bG a b
 ·exact qg
 ·cases (cB b).isEmpty
  ·cases (a.1==a.2.1&& b.1==b.2.1)
   ·refine⟨?_,?_⟩
    ·simp only[a0z,a1q]
     cases decide (a.1<0)
     ·exact bC
     ·simp only[a0z]
      split
      ·exact c.1
      ·exact ij _
    ·simp only[a0z,a1q]
     cases decide (a.2.1>0)
     ·exact bC
     ·simp only[a0z]
      split
      ·exact c.2
      ·exact ij _
   ·exact⟨AZ c.1,AZ c.1⟩
  ·exact⟨bC,bC⟩
def sz {a b:bo} (c:bc a) (d:bc b):bc (eY a b):=by
 refine⟨?_,?_⟩<;>(unfold eY;simp only;split)
 ·exact d.1
 ·exact c.1
 ·exact d.2
 ·exact c.2
def Nb {a b:bo} (c:bc a) (d:bc b):bc (ie a b):=by
 refine⟨?_,?_⟩<;>(unfold ie;simp only;split)
 ·exact d.1
 ·exact c.1
 ·exact d.2
 ·exact c.2
def lR {a b:bo} (c:bc a) (d:bc b):bc (dX a b).1:=by
 unfold dX
 cases bG a b&& bt (ie a b)
 ·exact cx
 ·exact Nb c d
def Nc (op:Int) (a b:bo):bc (xY op a b):=by
 unfold xY
 cases (decide (13<=op/\op<=18)&& bG a b)
 ·exact cx
 ·cases eH (31-op) a b<;>cases eH op a b<;>(unfold bc ay;simp)
def rh {c:bo} (h:bc c):bc (yc c).1:=by
 unfold yc
 cases bt c
 ·exact cx
 ·exact h
def Nd (op:Int) {a b:bo} (j:bc a) (k:bc b) (l:bt a=true):bc (kW op a b).1:=by
 unfold kW
 cases (decide (13<=op/\op<=18)&& bG a b)
 ·exact cx
 ·have m:a.1<=a.2.1:=a0x l
  obtain⟨⟨a1,c⟩,d,e⟩:=j;obtain⟨⟨f,g⟩,h,i⟩:=k;simp only[a0z];split
  ·exact lR ⟨⟨a1,c⟩,d,e⟩ ⟨⟨f,g⟩,h,i⟩
  ·split
   ·unfold mK
    split
    ·exact⟨⟨a1,c⟩,d,e⟩
    ·split
     ·exact cx
     ·split
      ·exact⟨⟨by simp only;omega,by simp only;omega⟩,d,e⟩
      ·exact⟨⟨a1,c⟩,⟨by simp only;omega,by simp only;omega⟩⟩
   ·split
    ·exact rh ⟨⟨a1,c⟩,by simp only;split;exact⟨h,i⟩;exact⟨d,e⟩⟩
    ·split
     ·exact rh ⟨by simp only;split;exact⟨f,g⟩;exact⟨a1,c⟩,⟨d,e⟩⟩
     ·split
      ·split
       ·exact cx
       ·exact rh ⟨⟨a1,c⟩,by simp only;unfold ay;split<;>omega⟩
      ·split
       ·exact cx
       ·exact rh ⟨by simp only;unfold ay;split<;>omega,⟨d,e⟩⟩
def dl (a:bo):ir:=(a.1,a.2.1,true,0,())
def pn (op:Int) (a b:bo):ir:=
 if op=8 then jz gz a b else if op=9 then jz fF a b else if op=10 then jz gC a b else if op=11 then q9 a b else if op=12 then rg a b
 else if op=20 then dl (if b.1<a.1 then b.1 else a.1,if b.2.1<a.2.1 then b.2.1 else a.2.1,())else if op=21 then dl (if b.1>a.1 then b.1 else a.1,if b.2.1>a.2.1 then b.2.1 else a.2.1,())else dl (xY op a b)
def oq (k:Nat) (a:bo):LG k (a,())=some ((dl a,()),((),())):=by simp[LG,dl]
def dR (k:Nat) (a:bo):Dl k (a,())=some ((dl a,()),((),())):=by simp[Dl,dl]
def Hy {k:Nat} (d:200<=k) (op:Int) {a b:bo} (e:bc a) (c:bc b):JT k (op,a,b,())=some ((pn op a b,()),((),(),(),())):=by
 simp only[JT,cg,CI d e c,q8 d e c,CJ d e c,CL d e c,CT c,oq,ya (show 2<=k by omega),aa,pn]
 repeat (split;rfl)
 rfl
def Nf {k:Nat} (d:50<=k) (op:Int) {a b:bo} (e:bc a) (c:bc b):J7 k (op,a,b,())=some ((pn op a b,()),((),(),(),())):=by
 simp only[J7,cg,CP d e c,rd d e c,CQ d e c,CS d e c,CU c,dR,yb,aa,pn]
 repeat (split;rfl)
 rfl
def Bb (op:Int) {a b:bo} (c:bc a) (d:bc b):nc (pn op a b):=by
 unfold pn;split
 ·exact o4 A8 c d
 split
 ·exact o4 o5 c d
 split
 ·exact o4 A9 c d
 split
 ·exact Hw c d
 split
 ·exact Hx c
 split
 ·refine⟨?_,?_⟩<;>(unfold dl;simp only;split)
  ·exact d.1
  ·exact c.1
  ·exact d.2
  ·exact c.2
 split
 ·refine⟨?_,?_⟩<;>(unfold dl;simp only;split)
  ·exact d.1
  ·exact c.1
  ·exact d.2
  ·exact c.2
 ·exact Nc op a b
abbrev ca:=Int×Int×Unit
def nT (op:Int):Nat:=if op<=5 then 0 else if op<=7\/op=19 then 1 else 2
def kT (op:Int):Int:=if op=3\/op=4\/op=5 then 0 else if op<=18 then 1 else 2
def cH (op:Int):Int:=if op=3\/op=4\/op=5 then 2 else if op<=12 then 1 else 2
def cN (d:ar) (t:ca):Bool:=
 if t.1=1 then decide (0<=t.2.1/\t.2.1<=999999999999999999)
 else if t.1=2 then decide (0<=t.2.1/\t.2.1<=(d.1.length:Int)-1)
 else if t.1=3 then decide (0<=t.2.1/\t.2.1<=(d.2.1.length:Int)-1)
 else if t.1=6 then decide (0<=t.2.1/\t.2.1<=(d.2.2.1.length:Int)-1)
 else decide (4<=t.1/\t.1<=21)&& (t.2.1==0)
def EP (op:Int):nT op<=2:=by
 unfold nT;split
 ·omega
 ·split<;>omega
def ri {d:ar} {t:ca} (h:cN d t=true):1<=t.1/\t.1<=21:=by
 unfold cN at h;by_cases a:t.1=1
 ·omega
 by_cases b:t.1=2
 ·omega
 by_cases c:t.1=3
 ·omega
 by_cases e:t.1=6
 ·omega
 rw[a0c a,a0c b,a0c c,a0c e,a0f]at h;have:=a0x h.1;omega
def kx (k:Nat) (op:Int):GK k (op,())=some (((nT op:Int),()),((),())):=by
 unfold GK nT;simp only[ak];by_cases a:op<=5
 ·simp[a]
 ·rw[a0c a,a0c a]
  by_cases b:op<=7
  ·simp[b]
  ·rw[a0c b]
   by_cases c:op=19
   ·subst c;simp
   ·have:(op==19)=false:=by simpa using c
    simp[this,b,c]
def Hz (k:Nat) (op:Int):Jj k (op,())=some ((kT op,cH op,()),((),())):=by
 unfold Jj kT cH;simp only[ak,cg];by_cases d:op=3
 ·subst d;simp
 by_cases e:op=4
 ·subst e;simp
 by_cases c:op=5
 ·subst c;simp
 have f:(op==5)=false:=by simpa using c
 simp only[d,e,c,f,a1y,a0d,af,false_or];by_cases b:op<=12
 ·have a:op<=18:=by omega
  simp[b,a]
 ·by_cases a:op<=18<;>simp[b,a]
def Ng (k:Nat) (d:ar) (c:fC d) (t:ca):Jk k (d,t,())=some ((cN d t,()),((),(),())):=by
 have g:=c.n0;have h:=c.n1;have n2:=c.n2;unfold Jk cN;simp only[cg,jP,aa];rw[am (n:=(d.1.length:Int)-1) (by omega) (by omega),am (n:=(d.2.1.length:Int)-1) (by omega) (by omega),am (n:=(d.2.2.1.length:Int)-1) (by omega) (by omega)];by_cases a:t.1=1
 ·simp only[a0e a]
 by_cases b:t.1=2
 ·simp only[a0c a,a0e b]
 by_cases e:t.1=3
 ·simp only[a0c a,a0c b,a0e e]
 by_cases f:t.1=6
 ·simp only[a0c a,a0c b,a0c e,a0e f]
 simp only[a0c a,a0c b,a0c e,a0c f]
 cases decide (4<=t.1/\t.1<=21)<;>simp
def Nh (k:Nat) (d:ar) (c:fC d) (t:ca):Jr k (d,t,())=some ((cN d t,()),((),(),())):=by
 have g:=c.n0;have h:=c.n1;have n2:=c.n2;unfold Jr cN w8 Cn;simp only[cg,dC,aa];rw[am (n:=(d.1.length:Int)-1) (by omega) (by omega),am (n:=(d.2.1.length:Int)-1) (by omega) (by omega),am (n:=(d.2.2.1.length:Int)-1) (by omega) (by omega)];by_cases a:t.1=1
 ·simp only[a0e a]
 by_cases b:t.1=2
 ·simp only[a0c a,a0e b]
 by_cases e:t.1=3
 ·simp only[a0c a,a0c b,a0e e]
 by_cases f:t.1=6
 ·simp only[a0c a,a0c b,a0c e,a0e f]
 simp only[a0c a,a0c b,a0c e,a0c f]
 cases decide (4<=t.1/\t.1<=21)<;>simp
def rj (k:Nat) (op:Int) (h:1<=op/\op<=21):zH k (op,())=some ((List.replicate (nT op) (kT op),()),((),())):=by
 have:op=1\/op=2\/op=3\/op=4\/op=5\/op=6\/op=7\/op=8\/op=9\/op=10\/op=11\/op=12\/op=13\/op=14\/op=15\/op=16\/op=17\/op=18\/op=19\/op=20\/op=21:=by omega
 unfold zH;simp only[dC,cg,aa];rcases this with rfl|rfl|rfl|rfl|rfl|rfl|rfl|rfl|rfl|rfl|rfl|rfl|rfl|rfl|rfl|rfl|rfl|rfl|rfl|rfl|rfl<;>simp[nT,kT,ak,List.replicate]
def KX (k:Nat) (op:Int) (h:1<=op/\op<=21):Jt k (op,())=some ((cH op,()),((),())):=by
 have:op=1\/op=2\/op=3\/op=4\/op=5\/op=6\/op=7\/op=8\/op=9\/op=10\/op=11\/op=12\/op=13\/op=14\/op=15\/op=16\/op=17\/op=18\/op=19\/op=20\/op=21:=by omega
 unfold Jt;simp only[dC,aa];rcases this with rfl|rfl|rfl|rfl|rfl|rfl|rfl|rfl|rfl|rfl|rfl|rfl|rfl|rfl|rfl|rfl|rfl|rfl|rfl|rfl|rfl<;>simp[cH,ak]
def lk (p:List Int) (op:Int):Option (List Int):=if nT op<=p.length/\p.drop (p.length-nT op)=List.replicate (nT op) (kT op)then some (p.take (p.length-nT op)++[cH op])else none
def ky:List Int->List ca->Option (List Int)
 |p,[]=>some p
 |p,t::r=>(lk p t.1).bind λq=>ky q r
def yf:Option (List Int)->Int
 |some [x]=>x
 |_=>0
def bO (d:ar) (l:List ca):Int:=cond (decide (l.length<=40)&& l.all (cN d)) (yf (ky [] l)) 0
def Bc (k:Nat) (p:List Int):(br k ((p.length:Int) !=1)
 (some ((0,()),((),(),())))
 (br k (decide (0<=(0:Int)/\(0:Int)<(p.length:Int)))
 (bd k (p[(0:Int).toNat]?) λa=>
 some ((a,()),((),(),())))
 none):Option dv)=some ((yf (some p),()),((),(),())):=by
 match p with
 |[]=>simp[yf]
 |[x]=>simp[yf]
 |x::y::r=>
  have:(((x::y::r).length:Int) !=1)=true:=by simp;omega
  simp only[this,ah,yf]
def Aa (k:Nat) (a b:List Int) (o:a.length<k) (u:k<=4611686018427387903):xc k (a,b,())=some ((decide (a=b),()),((),(),())):=by
 unfold xc;by_cases g:a.length=b.length
 ·have j:((a.length:Int) !=(b.length:Int))=false:=by simp[g]
  simp only[j,af];have h:=i5 (b:=xc.l0 k) (λi=>(a,b,(a.length:Int),(i:Int),())) a.length (λi=>a.getD i 0 !=b.getD i 0) (λ_=>some ((false,()),((),(),()))) (r:=some ((true,()),((),(),()))) (λG i l=>by
   have d:i<b.length:=by omega
   have f:((i:Int)<(a.length:Int)):=by omega
   have p:(0:Int)<=(i:Int):=by omega
   have q:a.getD i 0=a[i]:=by simp[List.getD,a0a l]
   have s:b.getD i 0=b[i]:=by simp[List.getD,a0a d]
   simp only[xc.l0,ak,a0e f,a0e p,a0g,a0a l,a0a d,aa,q,s];rw[au (by omega)]
   cases (a[i] !=b[i])<;>simp) (λG=>by
   have f:¬((a.length:Int)<(a.length:Int)):=by omega
   simp only[xc.l0,ak,a0c f]) o
  rcases h with⟨i,l,m,e⟩|⟨m,e⟩
  ·refine Eq.trans e ?_
   have c:a≠b:=by
    intro h;subst h;simp at m
   simp[c]
  ·refine Eq.trans e ?_
   have t:a=b:=by
    apply a7y g;intro i n f;have:=m i n;simp only[List.getD,a0a n,a0a f,a2r,bne_eq_false_iff_eq]at this;exact this
   simp[t]
 ·have j:((a.length:Int) !=(b.length:Int))=true:=by simp;omega
  have c:a≠b:=λh=>g (by rw[h])
  simp only[j,ah,c,decide_false]
def Ab (k:Nat) (z:4194304<k) (e:k<=4611686018427387903) (d:ar) (l:List ca) (A:l.length<=40) (j:∀t∈l,cN d t=true):∀(n i f:Nat) (p:List Int),i+n=l.length->n<f->p.length<=i->aG (GR.l0 k) f (p,l,(l.length:Int),(i:Int),())=some ((yf (ky p (l.drop i)),()),((),(),())):=by
 intro n
 induction n with
 |zero=>
  intro i f p q r s;obtain⟨f,rfl⟩:∃g,f=g+1:=⟨f-1,by omega⟩;have m:¬((i:Int)<(l.length:Int)):=by omega
  rw[aF,a2a (by omega)];simp only[GR.l0,ak (p:=(i:Int)<(l.length:Int)),a0c m,ky];exact Bc k p
 |succ n ih=>
  intro i f p q r s;obtain⟨f,rfl⟩:∃g,f=g+1:=⟨f-1,by omega⟩;have a:i<l.length:=by omega
  have m:((i:Int)<(l.length:Int)):=by omega
  have u:(0:Int)<=(i:Int):=by omega
  have b:=ri (j l[i] (a0h a));have B:=EP l[i].1;rw[aF,a1a a];simp only[GR.l0,ak,a0e m,a0e u,a0g,a0a a,aa,rj k l[i].1 b,KX k l[i].1 b,a1p,ky];rw[am (n:=(p.length:Int)-(nT l[i].1:Int)) (by omega) (by omega)];by_cases v:p.length<nT l[i].1
  ·have c1:((p.length:Int)-(nT l[i].1:Int))<0:=by omega
   have c2:¬(nT l[i].1<=p.length/\p.drop (p.length-nT l[i].1)=List.replicate (nT l[i].1) (kT l[i].1)):=by omega
   simp only[a0e c1,a0d,ah,lk,a0c c2,a5m,yf]
  ·have c1:¬((p.length:Int)-(nT l[i].1:Int))<0:=by omega
   have c2:0<=((p.length:Int)-(nT l[i].1:Int))/\((p.length:Int)-(nT l[i].1:Int))<=(p.length:Int):=by omega
   have w:((p.length:Int)-(nT l[i].1:Int)).toNat=p.length-nT l[i].1:=by omega
   have x:aQ p (p.length-nT l[i].1) (p.length-(p.length-nT l[i].1))=p.drop (p.length-nT l[i].1):=by
    unfold aQ;rw[a4b (by simp)]
   have et:aQ p ((0:Int).toNat) (p.length-nT l[i].1-(0:Int).toNat)=p.take (p.length-nT l[i].1):=by simp[aQ]
   have y:((p.take (p.length-nT l[i].1)).length+([cH l[i].1]:List Int).length)*8<=ai:=by simp[ai];omega
   simp only[a0c c1,a0e c2,w,x,et,Aa k (p.drop (p.length-nT l[i].1)) (List.replicate (nT l[i].1) (kT l[i].1)) (by simp;omega) e,aa,a0d,a0e y];rw[au (by omega)];by_cases c:p.drop (p.length-nT l[i].1)=List.replicate (nT l[i].1) (kT l[i].1)
   ·have o:nT l[i].1<=p.length/\p.drop (p.length-nT l[i].1)=List.replicate (nT l[i].1) (kT l[i].1):=⟨by omega,c⟩
    simp only[a0b c,a0j,af,lk,a0e o,a0d];exact ih (i+1) f _ (by omega) (by omega) (by simp;omega)
   ·have o:¬(nT l[i].1<=p.length/\p.drop (p.length-nT l[i].1)=List.replicate (nT l[i].1) (kT l[i].1)):=λh=>c h.2
    simp only[a0i c,a0v,ah,lk,a0c o,a5m,yf]
def CX (k:Nat) (m:4194304<k) (d:ar) (e:fC d) (l:List ca) (p:l.length<=1048576):Js k (l,(d,()),())=some ((l.all (cN d),()),((),((),()),())):=by
 obtain⟨n,g,a⟩:=eu (b:=w9.l0 k) (λi=>(l,(((d,()),()),()),(l.length:Int),(i:Int),())) l (λt=> !cN d t) (o:=((),(((d,()),()),()),())) (λG i h=>by
  have a:((i:Int)<(l.length:Int)):=by omega
  have j:(0:Int)<=(i:Int):=by omega
  simp only[w9.l0,My,Nh k d e,ak,a0e a,a0e j,a0g,a0a h,aa];rw[au (by omega)]
  cases cN d l[i]<;>simp) (λG=>by
  have a:¬((l.length:Int)<(l.length:Int)):=by omega
  simp only[w9.l0,ak,a0c a]) (f:=k) (by omega)
 unfold Js Mz w9;have c:aG (w9.l0 k) k (l,(((d,()),()),()),(l.length:Int),0,())=some ((n,()),((),(((d,()),()),()),())):=g;simp only[c,aa,a];rw[List.not_any_eq_all_not];simp
def Bd (k:Nat) (c:4194304<k) (b:k<=4611686018427387903) (d:ar) (f:fC d) (l:List ca) (g:l.length<=1048576):GR k (d,l,())=some ((bO d l,()),((),(),())):=by
 unfold GR bO;simp only[ak];by_cases e:(l.length:Int)>40
 ·have:decide (l.length<=40)=false:=by simp;omega
  simp[a0e e,this]
 ·have a:l.length<=40:=by omega
  simp only[a0c e,CX k c d f l g,aa,a0b a,a1i]
  cases ha:l.all (cN d)with
  |false=>simp
  |true=>
   have h:=Ab k c b d l a (λt i=>a1e.1 ha t i) l.length 0 k [] (by omega) (by omega) (a4q _);simp only[a0j,af,a0z];exact h
def Ac (k:Nat) (Q:4194304<k) (A:k<=4611686018427387903) (d:ar) (B:fC d) (l:List ca) (R:l.length<=40):∀(n i f:Nat) (p:List Int),i+n=l.length->n<f->p.length<=i->aG (AP.l0 k) f (l,d,p,(i:Int),())=some ((cond ((l.drop i).all (cN d)) (yf (ky p (l.drop i))) 0,()),((),(),())):=by
 intro n
 induction n with
 |zero=>
  intro i f p C D E;obtain⟨f,rfl⟩:∃g,f=g+1:=⟨f-1,by omega⟩;have c:¬((i:Int)<(l.length:Int)):=by omega
  rw[aF,a2a (by omega)];simp only[AP.l0,ak (p:=(i:Int)<(l.length:Int)),a0c c,ky,List.all_nil,a0z];exact Bc k p
 |succ n ih=>
  intro i f p C D E;obtain⟨f,rfl⟩:∃g,f=g+1:=⟨f-1,by omega⟩;have m:i<l.length:=by omega
  have c:((i:Int)<(l.length:Int)):=by omega
  have t:(0:Int)<=(i:Int):=by omega
  have S:=EP l[i].1;have F:((d.1,d.2.1,d.2.2.1,()):ar)=d:=rfl;rw[aF,a1a m,a5t];simp only[AP.l0,ak (p:=(i:Int)<(l.length:Int)),ak (p:=(0:Int)<=(i:Int)),a0e c,a0e t,a0g,a0a m,aa,kx,Hz,F,Ng k d B,ky]
  cases ht:cN d l[i]with
  |false=>simp
  |true=>
   simp only[a0j,af,a0d,a1i];by_cases H:p.length<nT l[i].1
   ·have c1:((p.length:Int)<(nT l[i].1:Int)):=by omega
    have c2:¬(nT l[i].1<=p.length/\p.drop (p.length-nT l[i].1)=List.replicate (nT l[i].1) (kT l[i].1)):=by omega
    simp only[a0b c1,ah,lk,a0c c2,a5m,yf]
    cases (l.drop (i+1)).all (cN d)<;>rfl
   ·have c1:¬((p.length:Int)<(nT l[i].1:Int)):=by omega
    simp only[a0i c1,af];rw[am (n:=(p.length:Int)-(nT l[i].1:Int)) (by omega) (by omega)];have o:=λj p I c t=>ih j f p I c t
    generalize T:aG (AP.l0 k) f=G0 at o⊢
    have q:=i5 (b:=AP.l2 k G0) (λj=>(l,d,p,(i:Int),(nT l[i].1:Int),kT l[i].1,cH l[i].1,(p.length:Int)-(nT l[i].1:Int)+(j:Int),())) (nT l[i].1) (λj=>p.getD (p.length-nT l[i].1+j) 0 !=kT l[i].1) (λ_=>some ((0,()),((),(),()))) (r:=G0 (l,d,p.take (p.length-nT l[i].1)++[cH l[i].1],((i+1:Nat):Int),())) (λG j s=>by
     have a:p.length-nT l[i].1+j<p.length:=by omega
     have u:((p.length:Int)-(nT l[i].1:Int)+(j:Int))<(p.length:Int):=by omega
     have v:0<=((p.length:Int)-(nT l[i].1:Int)+(j:Int))/\((p.length:Int)-(nT l[i].1:Int)+(j:Int))<(p.length:Int):=by omega
     have J:((p.length:Int)-(nT l[i].1:Int)+(j:Int)).toNat=p.length-nT l[i].1+j:=by omega
     have K:p.getD (p.length-nT l[i].1+j) 0=p[p.length-nT l[i].1+j]:=by simp[List.getD,a0a a]
     simp only[AP.l2,ak,a0e u,a0e v,J,a0a a,aa,K];rw[am (n:=(p.length:Int)-(nT l[i].1:Int)+(j:Int)+1) (by omega) (by omega)];have L:(p.length:Int)-(nT l[i].1:Int)+(j:Int)+1=(p.length:Int)-(nT l[i].1:Int)+((j+1:Nat):Int):=by omega
     rw[L]
     cases (p[p.length-nT l[i].1+j] !=kT l[i].1)<;>simp) (λG=>by
     have u:¬((p.length:Int)-(nT l[i].1:Int)+(nT l[i].1:Int))<(p.length:Int):=by omega
     have v:0<=((p.length:Int)-(nT l[i].1:Int))/\((p.length:Int)-(nT l[i].1:Int))<=(p.length:Int):=by omega
     have M:((p.length:Int)-(nT l[i].1:Int)).toNat=p.length-nT l[i].1:=by omega
     have et:aQ p ((0:Int).toNat) (p.length-nT l[i].1-(0:Int).toNat)=p.take (p.length-nT l[i].1):=by simp[aQ]
     have N:((p.take (p.length-nT l[i].1)).length+([cH l[i].1]:List Int).length)*8<=ai:=by simp[ai];omega
     simp only[AP.l2,ak,a0c u];rw[am (n:=(p.length:Int)-(nT l[i].1:Int)) (by omega) (by omega)];simp only[a0e v,M,et,a0e N];rw[au (by omega)]) (f:=k) (by omega)
    have O:(p.length:Int)-(nT l[i].1:Int)+((0:Nat):Int)=(p.length:Int)-(nT l[i].1:Int):=by omega
    simp only[O]at q;rcases q with⟨j,s,w,e⟩|⟨w,e⟩
    ·refine Eq.trans e ?_
     have a:p.length-nT l[i].1+j<p.length:=by omega
     have x:¬(nT l[i].1<=p.length/\p.drop (p.length-nT l[i].1)=List.replicate (nT l[i].1) (kT l[i].1)):=by
      rintro⟨_,h⟩
      have y:=a1v (λz=>z[j]?) h;simp only[a2v,a0a a,a5h,a0e s,a0k]at y;simp[List.getD,a0a a,y]at w
     simp only[lk,a0c x,a5m,yf]
     cases (l.drop (i+1)).all (cN d)<;>rfl
    ·refine Eq.trans e ?_
     have x:nT l[i].1<=p.length/\p.drop (p.length-nT l[i].1)=List.replicate (nT l[i].1) (kT l[i].1):=by
      refine⟨by omega,?_⟩;apply a7y (by simp;omega);intro j y P;have s:j<nT l[i].1:=by simpa using P
      have a:p.length-nT l[i].1+j<p.length:=by omega
      have:=w j s;simp only[List.getD,a0a a,a2r,bne_eq_false_iff_eq]at this;simp[this]
     simp only[lk,a0e x,a0d];exact o (i+1) _ (by omega) (by omega) (by simp;omega)
def Be (k:Nat) (e:4194304<k) (b:k<=4611686018427387903) (d:ar) (f:fC d) (l:List ca) (c:aN d=true):AP k (d,l,())=some ((bO d l,()),((),(),())):=by
 unfold AP bO;simp only[gW k e d f,c,aa,a0j,af,a0d,ak];by_cases g:(l.length:Int)>40
 ·have:decide (l.length<=40)=false:=by simp;omega
  simp[a0e g,this]
 ·have a:l.length<=40:=by omega
  have h:=Ac k e b d f l a l.length 0 k [] (by omega) (by omega) (a4q _);simp only[a0c g,a0b a,a1i];exact h
abbrev Ni:=List Int×List Bool×List (List Int)×Unit
structure P9 (s:Ni):Prop where
 n0:s.1.length<=1048576
 n1:s.2.1.length<=1048576
 n2:s.2.2.1.length<=1048576
 m2:∀x∈s.2.2.1,x.length<=1048576
def po (b:Bool):Int:=cond b 1 0
def o6 (k:Nat) (b:Bool):GV k (b,())=some ((po b,()),((),())):=by
 unfold GV
 cases b<;>simp[po]
def yg (k:Nat) (b:Bool):AQ k (b,())=some ((po b,()),((),())):=by
 unfold AQ
 cases b<;>simp[po]
def PE (n:Int):Prop:=n=0\/n=1
def CY (b:Bool):PE (po b):=by cases b<;>simp[PE,po]
def EQ {n:Int} (h:PE n):ay n:=by rcases h with rfl|rfl<;>simp[ay]
structure Qk (d:ar) (s:Ni):Prop where
 n0:s.1.length=d.1.length
 n1:s.2.1.length=d.2.1.length
 n2:s.2.2.1.length=d.2.2.1.length
 f0:∀x∈s.1,ay x
 f2:∀r∈s.2.2.1,∀x∈r,ay x
 m2:∀r∈s.2.2.1,r.length<=1048576
def P1 {op:Int} (h:nT op=0):op<=5:=by
 unfold nT at h;split at h
 ·assumption
 ·split at h<;>omega
def Qa {op:Int} (h:nT op=1):op=6\/op=7\/op=19:=by
 unfold nT at h;split at h
 ·omega
 ·split at h
  ·omega
  ·omega
def Qb {op:Int} (a:¬nT op=0) (b:¬nT op=1):nT op=2:=by
 have:=EP op;omega
def rm {d:ar} {t:ca} (h:cN d t=true) (a:t.1=2):0<=t.2.1/\t.2.1.toNat<d.1.length:=by
 unfold cN at h;rw[a0c (by omega),a0e a]at h;have:=a0x h;omega
def ER {d:ar} {t:ca} (h:cN d t=true) (a:t.1=3):0<=t.2.1/\t.2.1.toNat<d.2.1.length:=by
 unfold cN at h;rw[a0c (by omega),a0c (by omega),a0e a]at h;have:=a0x h;omega
def CZ {d:ar} {t:ca} (h:cN d t=true) (a:t.1=6):0<=t.2.1/\t.2.1.toNat<d.2.2.1.length:=by
 unfold cN at h;rw[a0c (by omega),a0c (by omega),a0c (by omega),a0e a]at h;have:=a0x h;omega
def IC {d:ar} {t:ca} (h:cN d t=true) (a:t.1=1):ay t.2.1:=by
 unfold cN at h;rw[a0e a]at h;have:=a0x h;unfold ay;omega
def Nj {d:ar} {t:ca} (h:cN d t=true) (a:t.1≠1) (b:t.1≠2) (c:t.1≠3) (e:t.1≠6):t.2.1=0:=by
 unfold cN at h;rw[a0c a,a0c b,a0c c,a0c e,a0f]at h;simpa using h.2
def aZ {α:Type} {l:List α} {i:Nat} (h:i<l.length) (z:α):l.getD i z=l[i]:=by simp[List.getD,a0a h]
abbrev Pr:=eQ×eQ×List pm×Bool×List bo×List bo×Int×Unit
def iO (d:ar) (e:aK) (leaf:Int):Pr:=(d.1,d.2.1,d.2.2.1,e.1,e.2.1,e.2.2.1,leaf,())
def HA (leaf n:Int):Int:=wrap .i64 (((BitVec.ofInt 64 (leaf.fdiv (2^(min n.toNat 64)))&&& BitVec.ofInt 64 1).toNat:Int))
def dY (e:aK) (leaf:Int) (t:ca):bo:=if t.1=1 then(t.2.1,t.2.1,())else if t.1=2 then e.2.1.getD t.2.1.toNat (0,0,())else if t.1=3 then(HA leaf t.2.1,HA leaf t.2.1,())else(po (t.1==4),po (t.1==4),())
def vw (x:pm):bo:=(0,wrap .i64 (x.2.1-1),())
def g8 (x:pm) (a:bo):Int:=cond (iH a (vw x)) 0 2
def eI (x:pm) (a:bo):Bool:=(dX a (vw x)).2.1
def Bf (k:Nat) (d:ar) {v:Int} (b:0<=v) {x:pm} (c:d.2.2.1[v.toNat]?=some x) (a:bo):Cr k ((d.1,d.2.1,d.2.2.1,()),v,a,())=some ((g8 x a,eI x a,()),((),(),(),())):=by
 simp only[Cr];rw[a0b b,c];simp only[ah,aa,jw,qf,g8,eI,vw]
 cases iH a (0,wrap .i64 (x.2.1-1),())<;>simp
def yh (k:Nat) (a:bo) (x:pm):Ey k (a,x.2.1,())=some ((eI x a,g8 x a,()),((),(),())):=by
 simp only[Ey,aa,li,xW,g8,eI,vw]
 cases iH a (0,wrap .i64 (x.2.1-1),())<;>simp
def Bg (k:Nat) {d:ar} {e:aK} (g:e.2.1.length=d.1.length) (leaf:Int) {t:ca} (h:cN d t=true):uK k (iO d e leaf,t,())=some ((dY e leaf t,()),((),(),())):=by
 unfold uK dY iO;simp only[cg,jC,aa];by_cases c:t.1=1
 ·rw[a0e c,a0e c]
 rw[a0c c,a0c c];by_cases a:t.1=2
 ·obtain⟨f,j⟩:=rm h a
  rw[a0e a,a0e a,a0b f];have i:t.2.1.toNat<e.2.1.length:=by omega
  simp only[ah,a0a i,aa,aZ i]
 rw[a0c a,a0c a];by_cases b:t.1=3
 ·obtain⟨f,j⟩:=ER h b
  rw[a0e b,a0e b,a0b f];simp only[ah,HA]
 rw[a0c b,a0c b];simp only[o6,aa,jC]
def C0 (d:ar) (e:aK) (t:ca) (a:bo):ir:=
 if t.1=6 then(match d.2.2.1[t.2.1.toNat]? with
  |some x=>cond (eI x a) ((e.2.2.1.getD t.2.1.toNat (0,0,())).1,(e.2.2.1.getD t.2.1.toNat (0,0,())).2.1,true,g8 x a,()) (0,0,false,g8 x a,())
  |none=>jy)
 else if t.1=7 then jz fF (0,0,()) a else dl (wrap .i64 (1-a.2.1),wrap .i64 (1-a.1),())
def Ps {k:Nat} (j:200<=k) {d:ar} {e:aK} (f:e.2.2.1.length=d.2.2.1.length) (leaf:Int) {t:ca} (l:cN d t=true) {a:bo} (m:bc a):JM k (iO d e leaf,t,a,())=some ((C0 d e t a,()),((),(),(),())):=by
 unfold JM C0 iO;simp only[cg];by_cases b:t.1=6
 ·obtain⟨g,n⟩:=CZ l b
  have h:d.2.2.1[t.2.1.toNat]?=some d.2.2.1[t.2.1.toNat]:=a0a n;have i:t.2.1.toNat<e.2.2.1.length:=by omega
  rw[a0e b,a0e b];simp only[Bf k d g h a,aa,h]
  cases eI d.2.2.1[t.2.1.toNat] a
  ·simp
  ·rw[a0b g]
   simp only[a0j,af,ah,a0a i,aa,aZ i,a0z]
 rw[a0c b,a0c b];by_cases c:t.1=7
 ·rw[a0e c,a0e c]
  simp only[CK j m,aa]
 ·rw[a0c c,a0c c]
  simp only[oq,aa]
def uk {d:ar} {e:aK} (a:e.2.1.length=d.1.length) (g:∀x∈e.2.1,bc x) (leaf:Int) {t:ca} (b:cN d t=true):bc (dY e leaf t):=by
 unfold dY;split
 ·rename_i h
  have c:ay t.2.1:=IC b h;exact⟨c,c⟩
 split
 ·rename_i h
  obtain⟨i,j⟩:=rm b h;have f:t.2.1.toNat<e.2.1.length:=by omega
  rw[aZ f];exact g _ (a0h f)
 split
 ·exact⟨ij _,ij _⟩
 ·exact⟨EQ (CY _),EQ (CY _)⟩
def ES {d:ar} {e:aK} (b:e.2.2.1.length=d.2.2.1.length) (f:∀x∈e.2.2.1,bc x) {t:ca} (g:cN d t=true) {a:bo} (h:bc a):nc (C0 d e t a):=by
 unfold C0;split
 ·rename_i i
  obtain⟨k,j⟩:=CZ g i;have c:t.2.1.toNat<e.2.2.1.length:=by omega
  rw[a0a j];simp only
  cases eI d.2.2.1[t.2.1.toNat] a
  ·exact⟨bC,bC⟩
  ·rw[aZ c]
   exact f _ (a0h c)
 split
 ·exact o4 o5 cx h
 ·exact⟨ij _,ij _⟩
structure ET (K p:List Int):Prop where
 len:p.length=K.length
 fit:∀v∈p,ay v
 bit:∀i,K[i]?=some 2->PE (p.getD i 0)
def kz {K a:List Int} {op:Int} (h:lk K op=some a):nT op<=K.length/\K.drop (K.length-nT op)=List.replicate (nT op) (kT op)/\a=K.take (K.length-nT op)++[cH op]:=by
 unfold lk at h;split at h
 ·rename_i b
  exact⟨b.1,b.2,(a1h h).symm⟩
 ·cases h
def Nk {K:List Int} {n:Nat} {x:Int} (b:n<=K.length) (h:K.drop (K.length-n)=List.replicate n x) {j:Nat} (a:j<n):K[K.length-n+j]?=some x:=by
 have:=a1v (·[j]?) h;simp only[a2v,a5h,a0e a]at this;exact this
def ET.arg {K p:List Int} (b:ET K p) {op:Int} {c:List Int} (h:lk K op=some c) {j:Nat} (d:j<nT op):p.length-nT op+j<p.length/\ay (p.getD (p.length-nT op+j) 0)/\(kT op=2->PE (p.getD (p.length-nT op+j) 0)):=by
 obtain⟨e,f,_⟩:=kz h;have g:=b.len;have a:p.length-nT op+j<p.length:=by omega
 refine⟨a,?_,λi=> ?_⟩
 ·rw[aZ a];exact b.fit _ (a0h _)
 ·refine b.bit _ ?_
  rw[g,Nk e f d,i]
def ET.push {K p:List Int} (c:ET K p) {op:Int} {f:List Int} (h:lk K op=some f) {v:Int} (g:ay v) (b:cH op=2->PE v):ET f (p.take (p.length-nT op)++[v]):=by
 obtain⟨l,m,rfl⟩:=kz h;have j:=c.len;refine⟨by simp;omega,λx hx=> ?_,λi a=> ?_⟩
 ·rcases a0l.1 hx with hx|hx
  ·exact c.fit x (a3i hx)
  ·rw[a1c.1 hx];exact g
 ·by_cases d:i<K.length-nT op
  ·rw[a1k (by simp;omega),a4i,a0e d]at a
   have b:=c.bit i a;simp only[List.getD]at b⊢;rw[a1k (by simp;omega),a4i,a0e (by omega)];exact b
  ·by_cases k:i=K.length-nT op
   ·subst k
    rw[a0w (by simp)]at a;simp at a;simp only[List.getD];rw[j,a0w (by simp;omega)];simp;have e:K.length-nT op-min (K.length-nT op) p.length=0:=by omega
    rw[e];simpa using b a
   ·rw[a0w (by simp;omega)]at a
    have:i-(K.take (K.length-nT op)).length≠0:=by simp;omega
    rw[a1g (by simp;omega)]at a
    cases a
def EU {α:Type} (l:List α) (m:Nat):aQ l ((0:Int).toNat) (m-(0:Int).toNat)=l.take m:=by
 simp only[aQ];rfl
abbrev dA:bo:=(0,0,())
def ul (d:ar) (e:aK) (leaf:Int) (t:ca) (a b:bo):ir:=if nT t.1=0 then dl (dY e leaf t)else if nT t.1=1 then C0 d e t a else pn t.1 a b
def pq (d:ar) (e:aK) (leaf:Int):Int->List bo->List ca->ir
 |al,p,[]=>((p.getD 0 dA).1,(p.getD 0 dA).2.1,true,al,())
 |al,p,t::r=>
  if(ul d e leaf t (p.getD (p.length-nT t.1) dA) (p.getD (p.length-nT t.1+1) dA)).2.2.1=true then
   pq d e leaf (dg al (ul d e leaf t (p.getD (p.length-nT t.1) dA) (p.getD (p.length-nT t.1+1) dA)).2.2.2.1) (p.take (p.length-nT t.1)++[((ul d e leaf t (p.getD (p.length-nT t.1) dA) (p.getD (p.length-nT t.1+1) dA)).1,(ul d e leaf t (p.getD (p.length-nT t.1) dA) (p.getD (p.length-nT t.1+1) dA)).2.1,())]) r
  else(0,0,false,dg al (ul d e leaf t (p.getD (p.length-nT t.1) dA) (p.getD (p.length-nT t.1+1) dA)).2.2.2.1,())
structure FQ (d:ar) (e:aK):Prop where
 ints:e.2.1.length=d.1.length
 arrs:e.2.2.1.length=d.2.2.1.length
 fi:∀x∈e.2.1,bc x
 fa:∀x∈e.2.2.1,bc x
def ik {p:List bo} (h:∀x∈p,bc x) (i:Nat):bc (p.getD i dA):=by
 by_cases a:i<p.length
 ·rw[aZ a];exact h _ (a0h a)
 ·have:p.getD i dA=dA:=by simp[List.getD,a1g (Nat.le_of_not_lt a)]
  rw[this];exact cx
def EV {d:ar} {e:aK} (c:FQ d e) (leaf:Int) {t:ca} (f:cN d t=true) {a b:bo} (g:bc a) (h:bc b):nc (ul d e leaf t a b):=by
 unfold ul;split
 ·exact uk c.ints c.fi leaf f
 split
 ·exact ES c.arrs c.fa f g
 ·exact Bb _ g h
def C1 (k:Nat) (hk:4194304<k) {d:ar} {e:aK} (B:FQ d e) (leaf:Int) (l:List ca) (hl:l.length<=40) (C:∀t∈l,cN d t=true):∀(n i f:Nat) (p:List bo) (K q:List Int) (y:Int),i+n=l.length->n<f->p.length<=i->p.length=K.length->(∀x∈p,bc x)->ky K (l.drop i)=some q->q≠[]->aG (FI.l0 k) f ((d.1,d.2.1,d.2.2.1,e.1,e.2.1,e.2.2.1,leaf,()),(0,0,false,0,()),p,y,l,(l.length:Int),(i:Int),())=some ((pq d e leaf y p (l.drop i),()),((),(),())):=by
 intro n
 induction n with
 |zero=>
  intro i f p K q y U V W Q a c m;obtain⟨f,rfl⟩:∃g,f=g+1:=⟨f-1,by omega⟩;have D:l.drop i=[]:=a2a (by omega);rw[D]at c⊢;simp only[ky,a0k]at c;subst c;have h:0<p.length:=by rw[Q];exact List.length_pos_iff.2 m
  rw[aF];have E:¬((i:Int)<(l.length:Int)):=by omega
  have F:(0:Int)<=0/\(0:Int)<(p.length:Int):=by omega
  have X:p[(0:Int).toNat]?=some (p.getD 0 dA):=by
   rw[aZ h];exact a0a h
  simp only[FI.l0,ak,a0c E,a0e F,X,aa,pq]
 |succ n ih=>
  intro i f p K q y U V W Q a c m;obtain⟨f,rfl⟩:∃g,f=g+1:=⟨f-1,by omega⟩;have o:i<l.length:=by omega
  have D:l.drop i=l[i]::l.drop (i+1):=a1a o;have z:=C _ (a0h o);have G:=ri z;rw[D]at c⊢;simp only[ky,a2l]at c;obtain⟨Y,H,c⟩:=c;obtain⟨hn,_,I⟩:=kz H;have Z:=EV B leaf z (ik a (p.length-nT l[i].1)) (ik a (p.length-nT l[i].1+1));have b:=λJ=>ih (i+1) f (p.take (p.length-nT l[i].1)++[((ul d e leaf l[i] (p.getD (p.length-nT l[i].1) dA) (p.getD (p.length-nT l[i].1+1) dA)).1,(ul d e leaf l[i] (p.getD (p.length-nT l[i].1) dA) (p.getD (p.length-nT l[i].1+1) dA)).2.1,())]) Y q J (by omega) (by omega) (by simp;omega) (by rw[I];simp;omega) (λx hx=>by
   rcases a0l.1 hx with hx|hx
   ·exact a x (a3i hx)
   ·rw[a1c.1 hx];exact Z) c m
  have E:((i:Int)<(l.length:Int)):=by omega
  have F:(0:Int)<=(i:Int):=by omega
  have ew:wrap .i64 ((p.length:Int)-((nT l[i].1:Nat):Int))=((p.length-nT l[i].1:Nat):Int):=by rw[am (by omega) (by omega)];omega
  have L:0<=((p.length-nT l[i].1:Nat):Int)/\((p.length-nT l[i].1:Nat):Int)<=(p.length:Int):=by omega
  have M:∀v:bo,((p.take (p.length-nT l[i].1)).length+([v]:List bo).length)*16<=ai:=by intro v;simp only[a1m,a0o,a0q,ai];omega
  rw[aF];simp only[FI.l0,ak,a0e E,a0e F,a0g,a0a o,aa,rj k _ G,a1p,ew,EU,a0e L,a0e (M _),cg];rw[au (by omega)];simp only[pq];by_cases A:nT l[i].1=0
  ·have r:ul d e leaf l[i] (p.getD (p.length-nT l[i].1) dA) (p.getD (p.length-nT l[i].1+1) dA)=dl (dY e leaf l[i]):=by unfold ul;rw[a0e A]
   have s:=Bg k B.ints leaf z;unfold iO at s;rw[a0e (show((nT l[i].1:Nat):Int)=0 by omega),s];rw[r]at b⊢;simp only[aa,oq,dl,a0j,af,a2c];exact b _
  ·rw[a0c (show¬((nT l[i].1:Nat):Int)=0 by omega)]
   have R:p.length-nT l[i].1<p.length:=by omega
   have a1:=ik a (p.length-nT l[i].1);have S:p[p.length-nT l[i].1]?=some (p.getD (p.length-nT l[i].1) dA):=by rw[aZ R];exact a0a R
   have j:0<=((p.length-nT l[i].1:Nat):Int)/\((p.length-nT l[i].1:Nat):Int)<(p.length:Int):=by omega
   by_cases N:nT l[i].1=1
   ·have r:ul d e leaf l[i] (p.getD (p.length-nT l[i].1) dA) (p.getD (p.length-nT l[i].1+1) dA)=C0 d e l[i] (p.getD (p.length-nT l[i].1) dA):=by unfold ul;rw[a0c A,a0e N]
    have u:=Ps (k:=k) (by omega) B.arrs leaf z a1;unfold iO at u;rw[a0e (show((nT l[i].1:Nat):Int)=1 by omega),a0e j,S,aa,u,aa];rw[r]at b⊢
    cases hc:(C0 d e l[i] (p.getD (p.length-nT l[i].1) dA)).2.2.1
    ·simp only[hc,a0v,ah,a0r,a1y]
     rfl
    ·simp only[hc,a0j,af,a2c]
     exact b _
   ·have r:ul d e leaf l[i] (p.getD (p.length-nT l[i].1) dA) (p.getD (p.length-nT l[i].1+1) dA)=pn l[i].1 (p.getD (p.length-nT l[i].1) dA) (p.getD (p.length-nT l[i].1+1) dA):=by unfold ul;rw[a0c A,a0c N]
    have Ql:=Qb A N;have T:p.length-nT l[i].1+1<p.length:=by omega
    have b1:=ik a (p.length-nT l[i].1+1);have O:wrap .i64 (((p.length-nT l[i].1:Nat):Int)+1)=((p.length-nT l[i].1+1:Nat):Int):=by rw[am (by omega) (by omega)];omega
    have w:0<=((p.length-nT l[i].1+1:Nat):Int)/\((p.length-nT l[i].1+1:Nat):Int)<(p.length:Int):=by omega
    have P:p[p.length-nT l[i].1+1]?=some (p.getD (p.length-nT l[i].1+1) dA):=by rw[aZ T];exact a0a T
    rw[a0c (show¬((nT l[i].1:Nat):Int)=1 by omega),a0e j,S,aa,O,a0e w,a0g,P,aa,Hy (by omega) _ a1 b1,aa];rw[r]at b⊢
    cases hc:(pn l[i].1 (p.getD (p.length-nT l[i].1) dA) (p.getD (p.length-nT l[i].1+1) dA)).2.2.1
    ·simp only[hc,a0v,ah,a0r,a1y]
     rfl
    ·simp only[hc,a0j,af,a2c]
     exact b _
def EW (k:Nat) {d:ar} {e:aK} (j:FQ d e) (leaf:Int) {t:ca} (f:cN d t=true) (l:nT t.1=0) (m:d.2.1.length<=60):uT k ((d.1,d.2.1,d.2.2.1,()),t,(e.1,e.2.1,e.2.2.1,()),leaf,())=some ((dl (dY e leaf t),()),((),(),(),(),())):=by
 unfold uT dY;simp only[cg];have p:=P1 l;by_cases a:t.1=2
 ·obtain⟨g,n⟩:=rm f a
  have i:t.2.1.toNat<e.2.1.length:=by rw[j.ints];omega
  rw[a0e a,a0c (show¬t.1=1 by omega),a0e a,a0b g];simp only[ah,a0a i,aa,dR,aZ i]
 rw[a0c a];by_cases b:t.1=3
 ·obtain⟨g,n⟩:=ER f b
  have o:wrap .u64 t.2.1=t.2.1:=by rw[IntKind.wrap_u64];omega
  rw[a0e b,a0c (show¬t.1=1 by omega),a0c a,a0e b,o,a0b g];simp only[ah,dR,aa,HA]
 rw[a0c b];by_cases c:t.1=4
 ·rw[a0e c,a0c (show¬t.1=1 by omega),a0c a,a0c b]
  simp only[dR,aa,c];rfl
 rw[a0c c];by_cases h:t.1=1
 ·rw[a0e h]
  simp only[dR,aa]
 ·rw[a0c h,a0c a,a0c b,Nj f h a b (by omega)]
  have:(t.1==4)=false:=by simpa using c
  simp only[dR,aa,this];rfl
def C2 (k:Nat) (hk:4194304<k) {d:ar} {e:aK} (C:FQ d e) (D:d.2.1.length<=60) (leaf:Int) (l:List ca) (hl:l.length<=40) (E:∀t∈l,cN d t=true):∀(n i f:Nat) (p:List bo) (K r:List Int) (z:Int),i+n=l.length->n<f->p.length<=i->p.length=K.length->(∀x∈p,bc x)->ky K (l.drop i)=some r->r≠[]->aG (xw.l0 k) f (l,leaf,(d.1,d.2.1,d.2.2.1,()),(e.1,e.2.1,e.2.2.1,()),(0,0,false,0,()),p,z,(i:Int),())=some ((pq d e leaf z p (l.drop i),()),((),(),(),(),())):=by
 intro n
 induction n with
 |zero=>
  intro i f p K r z X Y Z S b h m;obtain⟨f,rfl⟩:∃g,f=g+1:=⟨f-1,by omega⟩;have F:l.drop i=[]:=a2a (by omega);rw[F]at h⊢;simp only[ky,a0k]at h;subst h;have j:0<p.length:=by rw[S];exact List.length_pos_iff.2 m
  rw[aF];have G:¬((i:Int)<(l.length:Int)):=by omega
  have H:(0:Int)<=0/\(0:Int)<(p.length:Int):=by omega
  have e0:p[(0:Int).toNat]?=some (p.getD 0 dA):=by
   rw[aZ j];exact a0a j
  simp only[xw.l0,ak,a0c G,a0e H,e0,aa,pq]
 |succ n ih=>
  intro i f p K r z X Y Z S b h m;obtain⟨f,rfl⟩:∃g,f=g+1:=⟨f-1,by omega⟩;have o:i<l.length:=by omega
  have F:l.drop i=l[i]::l.drop (i+1):=a1a o;have I:=E _ (a0h o);rw[F]at h⊢;simp only[ky,a2l]at h;obtain⟨K1,J,h⟩:=h;obtain⟨hn,_,L⟩:=kz J;have hv:=EV C leaf I (ik b (p.length-nT l[i].1)) (ik b (p.length-nT l[i].1+1));have a:=λM=>ih (i+1) f (p.take (p.length-nT l[i].1)++[((ul d e leaf l[i] (p.getD (p.length-nT l[i].1) dA) (p.getD (p.length-nT l[i].1+1) dA)).1,(ul d e leaf l[i] (p.getD (p.length-nT l[i].1) dA) (p.getD (p.length-nT l[i].1+1) dA)).2.1,())]) K1 r M (by omega) (by omega) (by simp;omega) (by rw[L];simp;omega) (λx hx=>by
   rcases a0l.1 hx with hx|hx
   ·exact b x (a3i hx)
   ·rw[a1c.1 hx];exact hv) h m
  have G:((i:Int)<(l.length:Int)):=by omega
  have H:(0:Int)<=(i:Int):=by omega
  have ew:wrap .i64 ((p.length:Int)-((nT l[i].1:Nat):Int))=((p.length-nT l[i].1:Nat):Int):=by rw[am (by omega) (by omega)];omega
  have N:0<=((p.length-nT l[i].1:Nat):Int)/\((p.length-nT l[i].1:Nat):Int)<=(p.length:Int):=by omega
  have O:∀v:bo,((p.take (p.length-nT l[i].1)).length+([v]:List bo).length)*16<=ai:=by intro v;simp only[a1m,a0o,a0q,ai];omega
  rw[aF];simp only[xw.l0,ak,a0e G,a0e H,a0g,a0a o,aa,kx,ew,EU,a0e N,a0e (O _),cg];rw[au (i:=i) (by omega)];simp only[pq];by_cases q:nT l[i].1=0
  ·have h5:=P1 q
   have s:ul d e leaf l[i] (p.getD (p.length-nT l[i].1) dA) (p.getD (p.length-nT l[i].1+1) dA)=dl (dY e leaf l[i]):=by unfold ul;rw[a0e q]
   have P:=EW k C leaf I q D;rw[a0c (show¬((nT l[i].1:Nat):Int)=2 by omega),a0c (show¬l[i].1=7 by omega),a0c (show¬l[i].1=19 by omega),a0c (show¬l[i].1=6 by omega),P];rw[s]at a⊢;simp only[aa,dl,a0j,af,a2c];exact a _
  ·have T:p.length-nT l[i].1<p.length:=by omega
   have a1:=ik b (p.length-nT l[i].1);have A:p[p.length-nT l[i].1]?=some (p.getD (p.length-nT l[i].1) dA):=by rw[aZ T];exact a0a T
   have c:0<=((p.length-nT l[i].1:Nat):Int)/\((p.length-nT l[i].1:Nat):Int)<(p.length:Int):=by omega
   by_cases B:nT l[i].1=1
   ·have s:ul d e leaf l[i] (p.getD (p.length-nT l[i].1) dA) (p.getD (p.length-nT l[i].1+1) dA)=C0 d e l[i] (p.getD (p.length-nT l[i].1) dA):=by unfold ul;rw[a0c q,a0e B]
    rw[a0c (show¬((nT l[i].1:Nat):Int)=2 by omega)];rw[s]at a⊢;rcases Qa B with h6|h7|h19
    ·obtain⟨U,V⟩:=CZ I h6
     have u:l[i].2.1.toNat<e.2.2.1.length:=by rw[C.arrs];exact V
     have hx:d.2.2.1[l[i].2.1.toNat]?=some d.2.2.1[l[i].2.1.toNat]:=a0a V;have w:C0 d e l[i] (p.getD (p.length-nT l[i].1) dA)=cond (eI d.2.2.1[l[i].2.1.toNat] (p.getD (p.length-nT l[i].1) dA)) ((e.2.2.1.getD l[i].2.1.toNat (0,0,())).1,(e.2.2.1.getD l[i].2.1.toNat (0,0,())).2.1,true,g8 d.2.2.1[l[i].2.1.toNat] (p.getD (p.length-nT l[i].1) dA),()) (0,0,false,g8 d.2.2.1[l[i].2.1.toNat] (p.getD (p.length-nT l[i].1) dA),()):=by
      unfold C0;rw[a0e h6,hx]
     rw[w]at a⊢;rw[a0c (show¬l[i].1=7 by omega),a0c (show¬l[i].1=19 by omega),a0e h6,a0e U,a0a u,aa,dR,aa,a0e c,A,aa,a0e U,hx,aa,yh,aa];rw[aZ u]at a⊢
     cases hc:eI d.2.2.1[l[i].2.1.toNat] (p.getD (p.length-nT l[i].1) dA)
     ·simp only[a0v,ah,a1q,a0r,a1y]
      rfl
     ·rw[hc]at a
      simp only[a0z]at a;simp only[a0j,af,a0z,a2c,dl];exact a _
    ·have w:C0 d e l[i] (p.getD (p.length-nT l[i].1) dA)=jz fF (0,0,()) (p.getD (p.length-nT l[i].1) dA):=by
      unfold C0;rw[a0c (show¬l[i].1=6 by omega),a0e h7]
     rw[w]at a⊢;rw[a0e h7,a0e c,A,aa,CR (by omega) a1,aa]
     cases hc:(jz fF (0,0,()) (p.getD (p.length-nT l[i].1) dA)).2.2.1
     ·simp only[hc,a0v,ah,a0r,a1y]
      rfl
     ·simp only[hc,a0j,af,a2c]
      exact a _
    ·have w:C0 d e l[i] (p.getD (p.length-nT l[i].1) dA)=dl (wrap .i64 (1-(p.getD (p.length-nT l[i].1) dA).2.1),wrap .i64 (1-(p.getD (p.length-nT l[i].1) dA).1),()):=by
      unfold C0;rw[a0c (show¬l[i].1=6 by omega),a0c (show¬l[i].1=7 by omega)]
     rw[w]at a⊢;rw[a0c (show¬l[i].1=7 by omega),a0e h19,a0e c,A,aa,a0e c,aa,dR,aa];simp only[dl,a0j,af,a2c];exact a _
   ·have s:ul d e leaf l[i] (p.getD (p.length-nT l[i].1) dA) (p.getD (p.length-nT l[i].1+1) dA)=pn l[i].1 (p.getD (p.length-nT l[i].1) dA) (p.getD (p.length-nT l[i].1+1) dA):=by unfold ul;rw[a0c q,a0c B]
    have Ql:=Qb q B;have W:p.length-nT l[i].1+1<p.length:=by omega
    have b1:=ik b (p.length-nT l[i].1+1);have Q:wrap .i64 (((p.length-nT l[i].1:Nat):Int)+1)=((p.length-nT l[i].1+1:Nat):Int):=by rw[am (by omega) (by omega)];omega
    have y:0<=((p.length-nT l[i].1+1:Nat):Int)/\((p.length-nT l[i].1+1:Nat):Int)<(p.length:Int):=by omega
    have R:p[p.length-nT l[i].1+1]?=some (p.getD (p.length-nT l[i].1+1) dA):=by rw[aZ W];exact a0a W
    rw[a0e (show((nT l[i].1:Nat):Int)=2 by omega),a0e c,A,aa,Q,a0e y,a0g,R,aa,Nf (by omega) _ a1 b1,aa];rw[s]at a⊢
    cases hc:(pn l[i].1 (p.getD (p.length-nT l[i].1) dA) (p.getD (p.length-nT l[i].1+1) dA)).2.2.1
    ·simp only[hc,a0v,ah,a0r,a1y]
     rfl
    ·simp only[hc,a0j,af,a2c]
     exact a _
inductive Ex where
 |leaf (t:ca)
 |one (t:ca) (a:Ex)
 |two (t:ca) (a b:Ex)
namespace Ex
def flat:Ex->List ca
 | .leaf t=>[t]
 | .one t a=>a.flat++[t]
 | .two t a b=>a.flat++(b.flat++[t])
def tok:Ex->ca
 | .leaf t=>t
 | .one t _=>t
 | .two t _ _=>t
def kind (x:Ex):Int:=cH x.tok.1
def size:Ex->Nat
 | .leaf _=>1
 | .one _ a=>a.size+1
 | .two _ a b=>a.size+b.size+1
def depth:Ex->Nat
 | .leaf _=>1
 | .one _ a=>a.depth+1
 | .two _ a b=>max a.depth b.depth+1
def Ok (d:ar):Ex->Prop
 | .leaf t=>nT t.1=0/\cN d t=true
 | .one t a=>nT t.1=1/\cN d t=true/\a.kind=kT t.1/\a.Ok d
 | .two t a b=>nT t.1=2/\cN d t=true/\a.kind=kT t.1/\b.kind=kT t.1/\a.Ok d/\b.Ok d
def flat_len:(x:Ex)->x.flat.length=x.size
 | .leaf _=>rfl
 | .one _ a=>by simp[flat,size,flat_len a]
 | .two _ a b=>by simp[flat,size,flat_len a,flat_len b];omega
def size_pos:(x:Ex)->0<x.size
 | .leaf _=>by simp[size]
 | .one _ a=>by simp[size]
 | .two _ a b=>by simp[size]
def depth_le:(x:Ex)->x.depth<=x.size
 | .leaf _=>by simp[size,depth]
 | .one _ a=>by have:=depth_le a;simp[size,depth];omega
 | .two _ a b=>by have:=depth_le a;have:=depth_le b;simp[size,depth];omega
def Ok.tokOk {d:ar} {x:Ex} (h:x.Ok d):Go.Pev.F.cN d x.tok=true:=by
 cases x with
 |leaf t=>exact h.2
 |one t a=>exact h.2.1
 |two t a b=>exact h.2.1
def Ok.all {d:ar}: {x:Ex}->x.Ok d->∀t∈x.flat,Go.Pev.F.cN d t=true
 | .leaf t,h,s,hs=>by simp[flat]at hs;rw[hs];exact h.2
 | .one t a,h,s,hs=>by
  simp[flat]at hs;rcases hs with hs|hs
  ·exact Ok.all h.2.2.2 s hs
  ·rw[hs];exact h.2.1
 | .two t a b,h,s,hs=>by
  simp[flat]at hs;rcases hs with hs|hs|hs
  ·exact Ok.all h.2.2.2.2.1 s hs
  ·exact Ok.all h.2.2.2.2.2 s hs
  ·rw[hs];exact h.2.1
end Ex
def nd (xs:List Ex):List ca:=xs.flatMap Ex.flat
def PQ {α:Type} {l:List α} (h:l.length=1):∃a,l=[a]:=List.length_eq_one_iff.1 h
def PR {α:Type} {l:List α} (h:l.length=2):∃a b,l=[a,b]:=by
 match l,h with
 |[a,b],_=>exact⟨a,b,rfl⟩
def HB {d:ar}:∀(r:List ca) (xs:List Ex) (i:List Int),(∀x∈xs,x.Ok d)->(∀t∈r,cN d t=true)->ky (xs.map Ex.kind) r=some i->∃ys:List Ex,(∀y∈ys,y.Ok d)/\i=ys.map Ex.kind/\nd ys=nd xs++r:=by
 intro r
 induction r with
 |nil=>
  intro xs i j _ h;simp only[ky,a0k]at h;exact⟨xs,j,h.symm,by simp⟩
 |cons t r ih=>
  intro xs i j B h;simp only[ky,a2l]at h;obtain⟨C,o,h⟩:=h;obtain⟨D,e,p⟩:=kz o;have q:=B t (by simp);simp only[a3a]at D e p;have c:xs=xs.take (xs.length-nT t.1)++xs.drop (xs.length-nT t.1):=(a3t _ _).symm;have l:(xs.drop (xs.length-nT t.1)).length=nT t.1:=by rw[a2u];omega
  rw[<-List.map_drop]at e;rw[<-List.map_take]at p;have f:∀x:Ex,x.Ok d->x.tok=t->(nd (xs.take (xs.length-nT t.1))++x.flat=nd xs++[t])->∃ys:List Ex,(∀y∈ys,y.Ok d)/\i=ys.map Ex.kind/\nd ys=nd xs++t::r:=by
   intro x u v w;have z:C=(xs.take (xs.length-nT t.1)++[x]).map Ex.kind:=by
    rw[p,a3d];simp[Ex.kind,v]
   rw[z]at h;obtain⟨ys,k,m,E⟩:=ih _ i (λy hy=>by
    rcases a0l.1 hy with hy|hy
    ·exact j y (a3i hy)
    ·rw[a1c.1 hy];exact u) (λs o=>B s (by simp[o])) h
   refine⟨ys,k,m,?_⟩;rw[E];have:nd (xs.take (xs.length-nT t.1)++[x])=nd xs++[t]:=by rw[<-w];simp[nd]
   rw[this];simp
  by_cases A:nT t.1=0
  ·refine f (.leaf t) ⟨A,q⟩ rfl ?_
   rw[A];simp[Ex.flat]
  by_cases k:nT t.1=1
  ·obtain⟨a,g⟩:=PQ (l.trans k)
   rw[g,k]at e;simp at e;have n:a∈xs:=by rw[c,g];simp
   refine f (.one t a) ⟨k,q,e,j a n⟩ rfl ?_
   rw[g]at c
   conv=>rhs;rw[c]
   simp[nd,Ex.flat]
  ·have m:=Qb A k
   obtain⟨a,b,g⟩:=PR (l.trans m);rw[g,m]at e;simp at e;have n:a∈xs/\b∈xs:=by rw[c,g];simp
   refine f (.two t a b) ⟨m,q,e.1,e.2,j a n.1,j b n.2⟩ rfl ?_
   rw[g]at c
   conv=>rhs;rw[c]
   simp[nd,Ex.flat]
def sA {d:ar} {l:List ca} (h:bO d l≠0):∃x:Ex,x.Ok d/\l=x.flat/\bO d l=x.kind/\x.size<=40:=by
 unfold bO at h⊢
 cases hc:(decide (l.length<=40)&& l.all (cN d))with
 |false=>rw[hc]at h;exact absurd rfl h
 |true=>
  rw[hc]at h;simp only[a0z]at h⊢;simp only[a0f,a0u,a1e]at hc
  cases hr:ky [] l with
  |none=>rw[hr]at h;exact absurd rfl h
  |some K=>
   obtain⟨ys,b,a,c⟩:=HB l [] K (by simp) hc.2 hr;rw[hr]at h
   match ys,b,a,c with
   |[],_,a,_=>rw[a]at h;exact absurd rfl h
   |[y],b,a,c=>
    have e:l=y.flat:=by simpa [nd]using c.symm
    exact⟨y,b y (by simp),e,by rw[a];rfl,by rw[<-Ex.flat_len,<-e];exact hc.1⟩
   |y::z::r,_,a,_=>rw[a]at h;exact absurd rfl h
def KY (a:Int):BitVec 64:=BitVec.ofInt 64 a
def OA (n:Int):KY (wrap .i64 n)=KY n:=by
 apply a8l;simp only[KY,a7g];rw[IntKind.wrap_i64];omega
def Pt (x:BitVec 64):KY (x.toNat:Int)=x:=by
 apply a8l;simp only[KY,a7g];have:=x.isLt;omega
def OZ (a b:Int):KY (dg a b)=KY a|||KY b:=by
 unfold dg;rw[OA];exact Pt _
def sB (a b:Int):dg a b=wrap .i64 (((KY a|||KY b).toNat:Int)):=rfl
def cY (a b c:Int):dg (dg a b) c=dg a (dg b c):=by
 rw[sB (dg a b),sB a (dg b c),OZ,OZ,BitVec.or_assoc]
def EX (a b:Int):dg a b=dg b a:=by
 rw[sB,sB,BitVec.or_comm]
def ID {a:Int} (h:ay a):wrap .i64 (((KY a).toNat:Int))=a:=by
 obtain⟨b,c⟩:=h;rw[IntKind.wrap_i64];simp only[KY,a7g];omega
def EY {a:Int} (h:ay a):dg 0 a=a:=by
 have e:KY 0=0#64:=rfl;rw[sB,e,BitVec.zero_or];exact ID h
def gD {a:Int} (h:ay a):dg a 0=a:=by rw[EX,EY h]
def ro {a:Int} (h:ay a):dg a a=a:=by
 rw[sB,BitVec.or_self];exact ID h
def rq (a b:Int):ay (dg a b):=ij _
def OC {a:Int} (h:ay a) (b:Int):dg a (dg a b)=dg a b:=by rw[<-cY,ro h]
def cT {α:Type} {c:Bool} (h:c=true) (a b:α):cond c a b=a:=by subst h;rfl
def cF {α:Type} {c:Bool} (h:c=false) (a b:α):cond c a b=b:=by subst h;rfl
def bu (v:ir):bo:=(v.1,v.2.1,())
def aC (v:ir):Bool:=v.2.2.1
def bJ (v:ir):Int:=v.2.2.2.1
def dL (a:Int) (v:ir):ir:=cond (aC v) (v.1,v.2.1,true,dg a (bJ v),()) (0,0,false,dg a (bJ v),())
def aB (d:ar) (e:aK) (leaf:Int):Ex->ir
 | .leaf t=>dl (dY e leaf t)
 | .one t a=>cond (aC (aB d e leaf a)) (dL (bJ (aB d e leaf a)) (C0 d e t (bu (aB d e leaf a)))) (0,0,false,bJ (aB d e leaf a),())
 | .two t a b=>cond (aC (aB d e leaf a))
  (cond (aC (aB d e leaf b)) (dL (dg (bJ (aB d e leaf a)) (bJ (aB d e leaf b))) (pn t.1 (bu (aB d e leaf a)) (bu (aB d e leaf b)))) (0,0,false,dg (bJ (aB d e leaf a)) (bJ (aB d e leaf b)),()))
  (0,0,false,bJ (aB d e leaf a),())
def yi {a:Int} {v:ir} (h:aC v=true):dL a v=(v.1,v.2.1,true,dg a (bJ v),()):=by unfold dL;rw[h];rfl
def yj {a:Int} {v:ir} (h:aC v=false):dL a v=(0,0,false,dg a (bJ v),()):=by unfold dL;rw[h];rfl
def O0 (F:Int->List bo->ir) (e A:Int) (p:List bo) (v:ir):(if v.2.2.1=true then F (dg (dg e A) v.2.2.2.1) (p++[(v.1,v.2.1,())])else(0,0,false,dg (dg e A) v.2.2.2.1,()))=if aC (dL A v)=true then F (dg e (bJ (dL A v))) (p++[bu (dL A v)])else(0,0,false,dg e (bJ (dL A v)),()):=by
 obtain⟨a,b,c,d,⟨⟩⟩:=v
 cases c<;>simp[dL,aC,bJ,bu,cY]
def um {A:Int} {v:ir} (h:aC (dL A v)=false):dL A v=(0,0,false,bJ (dL A v),()):=by
 obtain⟨a,b,c,d,⟨⟩⟩:=v
 cases c
 ·simp[dL,aC,bJ]
 ·simp[dL,aC]at h
def sC {d:ar} {e:aK} {leaf:Int} {t:ca} {a:Ex} (h:aC (aB d e leaf a)=true):aB d e leaf (.one t a)=dL (bJ (aB d e leaf a)) (C0 d e t (bu (aB d e leaf a))):=by
 conv=>lhs;unfold aB
 rw[cT h]
def sD {d:ar} {e:aK} {leaf:Int} {t:ca} {a:Ex} (h:aC (aB d e leaf a)=false):aB d e leaf (.one t a)=(0,0,false,bJ (aB d e leaf a),()):=by
 conv=>lhs;unfold aB
 rw[cF h]
def sE {d:ar} {e:aK} {leaf:Int} {t:ca} {a b:Ex} (h:aC (aB d e leaf a)=false):aB d e leaf (.two t a b)=(0,0,false,bJ (aB d e leaf a),()):=by
 conv=>lhs;unfold aB
 rw[cF h]
def sG {d:ar} {e:aK} {leaf:Int} {t:ca} {a b:Ex} (h:aC (aB d e leaf a)=true) (c:aC (aB d e leaf b)=false):aB d e leaf (.two t a b)=(0,0,false,dg (bJ (aB d e leaf a)) (bJ (aB d e leaf b)),()):=by
 conv=>lhs;unfold aB
 rw[cT h,cF c]
def sH {d:ar} {e:aK} {leaf:Int} {t:ca} {a b:Ex} (h:aC (aB d e leaf a)=true) (c:aC (aB d e leaf b)=true):aB d e leaf (.two t a b)=dL (dg (bJ (aB d e leaf a)) (bJ (aB d e leaf b))) (pn t.1 (bu (aB d e leaf a)) (bu (aB d e leaf b))):=by
 conv=>lhs;unfold aB
 rw[cT h,cT c]
def KZ {α:Type} (p:List α) (a z:α):(p++[a]).getD ((p++[a]).length-1) z=a:=by
 simp[List.getD]
def yk {α:Type} (p:List α) (a b z:α):(p++[a]++[b]).getD ((p++[a]++[b]).length-2) z=a/\(p++[a]++[b]).getD ((p++[a]++[b]).length-2+1) z=b:=by
 constructor
 ·simp[List.getD,List.getElem?_append]
 ·simp[List.getD,List.getElem?_append]
def K0 {d:ar} (e:aK) (leaf:Int):∀(x:Ex),x.Ok d->∀(c:Int) (p:List bo) (r:List ca),pq d e leaf c p (x.flat++r)=if aC (aB d e leaf x)=true then pq d e leaf (dg c (bJ (aB d e leaf x))) (p++[bu (aB d e leaf x)]) r else(0,0,false,dg c (bJ (aB d e leaf x)),()):=by
 intro x
 induction x with
 |leaf t=>
  intro g c p r;have h:nT t.1=0:=g.1;simp only[Ex.flat,a4w,pq,ul,h,a2c,a8d,a1f,aB,aC,dl,bu,bJ]
 |one t a ih=>
  intro g c p r;have i:nT t.1=1:=g.1;have h:¬nT t.1=0:=by omega
  simp only[Ex.flat,a1r,a4w];rw[ih g.2.2.2];by_cases f:aC (aB d e leaf a)=true
  ·rw[a0e f,sC f]
   conv=>lhs;unfold pq
   simp only[ul,a0c h,a0e i];rw[i,KZ];have k:(p++[bu (aB d e leaf a)]).take ((p++[bu (aB d e leaf a)]).length-1)=p:=by simp
   rw[k];exact O0 (λc p=>pq d e leaf c p r) c _ p _
  ·rw[a0c f,sD (by simpa using f)]
   rfl
 |two t a b iha ihb=>
  intro g c p r;have l:nT t.1=2:=g.1;have h:¬nT t.1=0:=by omega
  have i:¬nT t.1=1:=by omega
  simp only[Ex.flat,a1r,a4w];rw[iha g.2.2.2.2.1];by_cases f:aC (aB d e leaf a)=true
  ·rw[a0e f,ihb g.2.2.2.2.2]
   by_cases j:aC (aB d e leaf b)=true
   ·rw[a0e j,sH f j]
    conv=>lhs;unfold pq
    simp only[ul,a0c h,a0c i];rw[l,(yk p _ _ _).1,(yk p _ _ _).2];have k:(p++[bu (aB d e leaf a)]++[bu (aB d e leaf b)]).take ((p++[bu (aB d e leaf a)]++[bu (aB d e leaf b)]).length-2)=p:=by simp
    rw[k];rw[cY c];exact O0 (λc p=>pq d e leaf c p r) c _ p _
   ·rw[a0c j,sG f (by simpa using j),cY]
    rfl
  ·rw[a0c f,sE (by simpa using f)]
   rfl
def un {a:Int} {v:ir} (h:nc v):nc (dL a v)/\ay (bJ (dL a v)):=by
 unfold dL
 cases aC v
 ·exact⟨⟨bC,bC⟩,rq _ _⟩
 ·exact⟨h,rq _ _⟩
def ce {d:ar} {e:aK} (c:FQ d e) (leaf:Int):∀ {x:Ex},x.Ok d->nc (aB d e leaf x)/\ay (bJ (aB d e leaf x))
 | .leaf t,hx=>⟨uk c.ints c.fi leaf hx.2,bC⟩
 | .one t a,hx=>by
  have h:=ce c leaf hx.2.2.2;simp only[aB]
  cases aC (aB d e leaf a)
  ·exact⟨⟨bC,bC⟩,h.2⟩
  ·exact un (ES c.arrs c.fa hx.2.1 h.1)
 | .two t a b,hx=>by
  have h:=ce c leaf hx.2.2.2.2.1;have f:=ce c leaf hx.2.2.2.2.2;simp only[aB]
  cases aC (aB d e leaf a)
  ·exact⟨⟨bC,bC⟩,h.2⟩
  ·cases aC (aB d e leaf b)
   ·exact⟨⟨bC,bC⟩,rq _ _⟩
   ·exact un (Bb _ h.1 f.1)
def K2 {d:ar} {e:aK} {leaf:Int} {x:Ex} (h:aC (aB d e leaf x)=false):aB d e leaf x=(0,0,false,bJ (aB d e leaf x),()):=by
 cases x with
 |leaf t=>exact absurd h (by simp[aB,aC,dl])
 |one t a=>
  by_cases c:aC (aB d e leaf a)=true
  ·rw[sC c]at h⊢
   exact um h
  ·rw[sD (by simpa using c)]
   rfl
 |two t a b=>
  by_cases c:aC (aB d e leaf a)=true
  ·by_cases f:aC (aB d e leaf b)=true
   ·rw[sH c f]at h⊢
    exact um h
   ·rw[sG c (by simpa using f)]
    rfl
  ·rw[sE (by simpa using c)]
   rfl
def Bh {d:ar} {e:aK} (b:FQ d e) (leaf:Int) {x:Ex} (a:x.Ok d):pq d e leaf 0 [] x.flat=aB d e leaf x:=by
 have h:=K0 e leaf x a 0 [] [];rw[a2b]at h;rw[h,EY (ce b leaf a).2]
 cases hl:aC (aB d e leaf x)
 ·rw[a0c (by simp)]
  exact(K2 hl).symm
 ·rw[a0e rfl]
  have:(aB d e leaf x).2.2.1=true:=hl;simp only[pq,a2m,bu,bJ];simp only[List.getD,a1t,a2r];rw[<-this]
def EZ {d:ar}:∀(x:Ex),x.Ok d->∀(K:List Int) (r:List ca),ky K (x.flat++r)=ky (K++[x.kind]) r:=by
 intro x
 induction x with
 |leaf t=>
  intro c K r;simp[Ex.flat,ky,lk,c.1,Ex.kind,Ex.tok]
 |one t a ih=>
  intro c K r;simp only[Ex.flat,a1r,a4w];rw[ih c.2.2.2];have h:nT t.1=1:=c.1;have f:=c.2.2.1;simp[ky,lk,h,Ex.kind,Ex.tok]at f⊢;simp[f]
 |two t a b iha ihb=>
  intro c K r;simp only[Ex.flat,a1r,a4w];rw[iha c.2.2.2.2.1,ihb c.2.2.2.2.2];have i:nT t.1=2:=c.1;have f:=c.2.2.1;have g:=c.2.2.2.1;simp[ky,lk,i,Ex.kind,Ex.tok]at f g⊢;have e:List.drop (K.length+1+1-2) (K++[cH a.tok.1,cH b.tok.1])=[cH a.tok.1,cH b.tok.1]:=by simp
  have j:List.take (K.length+1+1-2) (K++[cH a.tok.1,cH b.tok.1])=K:=by simp
  simp[f,g]
def mL {k:Nat} (f:4194304<k) {d:ar} {e:aK} (b:FQ d e) (leaf:Int) {x:Ex} (a:x.Ok d) (g:x.size<=40):FI k ((d.1,d.2.1,d.2.2.1,e.1,e.2.1,e.2.2.1,leaf,()),x.flat,())=some ((aB d e leaf x,()),((),(),())):=by
 have c:=EZ x a [] [];rw[a2b]at c;have h:=C1 k f b leaf x.flat (by rw[Ex.flat_len];exact g) a.all x.flat.length 0 k [] [] [x.kind] 0 (by omega) (by rw[Ex.flat_len];omega) (by simp) rfl (by simp) (by rw[a4y,c];rfl) (by simp);rw[a4y,Bh b leaf a]at h;simp only[FI];exact h
def i8 {k:Nat} (g:4194304<k) {d:ar} {e:aK} (c:FQ d e) (a:d.2.1.length<=60) (leaf:Int) {x:Ex} (b:x.Ok d) (i:x.size<=40):xw k (d,x.flat,e,leaf,())=some ((aB d e leaf x,()),((),(),(),(),())):=by
 have f:=EZ x b [] [];rw[a2b]at f;have h:=C2 k g c a leaf x.flat (by rw[Ex.flat_len];exact i) b.all x.flat.length 0 k [] [] [x.kind] 0 (by omega) (by rw[Ex.flat_len];omega) (by simp) rfl (by simp) (by rw[a4y,f];rfl) (by simp);rw[a4y,Bh c leaf b]at h;simp only[xw];exact h
abbrev PS:=Int×Int×Int×Bool×List bo×List bo×Unit
instance envDec:DecidableEq aK:=λ_ _=>inferInstance
instance nodeDec:DecidableEq PS:= @instDecidableEqProd Int _ _ (@instDecidableEqProd Int _ _ (@instDecidableEqProd Int _ _ envDec))
def lS (k:Nat) (x:aK) (a:fD x):JZ k (x,())=some ((x,()),((),())):=by
 have d:=a.n1;have e:=a.n2;have b:(([]:List (Int×Int×Unit)).length+x.2.1.length)*16<=ai:=by simp[ai];omega
 have c:(([]:List (Int×Int×Unit)).length+x.2.2.1.length)*16<=ai:=by simp[ai];omega
 unfold JZ;simp only[ak,a0e b,a0e c,a2m]
def yl (k:Nat) (a:List bo) (c:a.length<=1048576):G8 k (a,())=some ((a,()),((),())):=by
 have b:(([]:List (Int×Int×Unit)).length+a.length)*16<=ai:=by simp[ai];omega
 unfold G8;simp only[ak,a0e b,a2m]
 cases a with
 |nil=>simp[eA]
 |cons p r=>simp
def qh (k:Nat) (x:aK) (a:fD x):ze k (x,())=some ((x,()),((),())):=by
 unfold ze;simp only[yl k _ a.n1,yl k _ a.n2,aa]
def aU (e:aK) (v:Int) (a:bo):aK:=(e.1,e.2.1.set v.toNat a,e.2.2.1,())
def qi (k:Nat) {e:aK} (b:fD e) {v:Int} (c:0<=v/\v<(e.2.1.length:Int)) (a:bo):Ir k (e,v,a,())=some ((aU e v a,()),((),(),(),())):=by
 have d:v.toNat<e.2.1.length:=by omega
 simp only[Ir,qh k e b,aa];rw[a0b c,a0a d];simp only[ah,aa,aU]
def gE (k:Nat) {e:aK} (b:fD e) {v:Int} (c:0<=v/\v<(e.2.1.length:Int)) (a:bo):Cz k (e,v,a,())=some ((aU e v a,()),((),(),(),())):=by
 have d:v.toNat<e.2.1.length:=by omega
 simp only[Cz,lS k e b,aa];rw[a0b c,a0a d];simp only[ah,aa,aU]
def K3 {d:ar} {e:aK} (b:FQ d e) {v:Int} {a:bo} (c:bc a):FQ d (aU e v a):=by
 refine⟨by simp only[aU,a8e];exact b.ints,b.arrs,λx f=> ?_,b.fa⟩;rcases a3r f with h|h
 ·exact b.fi x h
 ·rw[h];exact c
def fL (a b:List bo):List bo:=List.zipWith eY a b
def pE (a b:List bo):List bo:=List.zipWith mG a b
def lT {α:Type} (f:α->α->α) (a b:List α) {i:Nat} (c:i<a.length) (d:i<b.length):List.zipWith f (a.take (i+1)) (b.take (i+1))=List.zipWith f (a.take i) (b.take i)++[f a[i] b[i]]:=by
 rw[a2e c,a2e d,a6e (by simp;omega)];rfl
def Bi {k:Nat} (a b:List bo) (f:a.length=b.length) (g:a.length<=1000) (h:1000<k):uL k (a,b,(),())=some ((pE a b,()),((),(),(),())):=by
 simp only[uL];refine aR (b:=uL.l0 k) (λi=>(b,(),pE (a.take i) (b.take i),a,(a.length:Int),(i:Int),())) a.length (λG i c=> ?_) (λG=> ?_) (by omega)
 ·have d:i<b.length:=by omega
  have e:(pE (a.take i) (b.take i)).length<=1000:=by unfold pE;simp;omega
  simp only[uL.l0];rw[a0b (show(i:Int)<(a.length:Int) by omega),a0b (show(0:Int)<=(i:Int) by omega)];simp only[ah,a0g,a0a c,a0a d,aa,tX];rw[a0b (show((pE (a.take i) (b.take i)).length+([mG a[i] b[i]]:List bo).length)*16<=ai by simp only[a0o,a0q,ai];omega),ah,au (i:=i) (by omega)];unfold pE;rw[lT mG a b c d]
 ·simp only[uL.l0]
  rw[a0i (show¬(a.length:Int)<(a.length:Int) by omega),af,a1f,f,a1f]
def sI:(a b:List bo)->(∀x∈a,bt x=true)->(∀x∈b,bt x=true)->pE a b=fL a b
 |[],b,_,_=>by simp[pE,fL]
 |x::a,[],_,_=>by simp[pE,fL]
 |x::a,y::b,ha,hb=>by
  have ih:=sI a b (λz c=>ha z (by simp[c])) (λz c=>hb z (by simp[c]));have e:mG x y=eY x y:=by
   unfold mG bG;rw[ha x (by simp),hb y (by simp)];rfl
  unfold pE fL at ih⊢;simp only[a3q,e,ih]
def cO (a b:aK):aK:=cond a.1 (cond b.1 (true,fL a.2.1 b.2.1,fL a.2.2.1 b.2.2.1,()) a) b
def uo {k:Nat} {a b:aK} (g:fD a) (h:fD b) (i:a.1=true->b.1=true->a.2.1.length=b.2.1.length/\a.2.2.1.length=b.2.2.1.length) (c:a.2.1.length<=1000/\a.2.2.1.length<=1000) (d:1000<k) (e:(∀x∈a.2.1,bt x=true)/\∀x∈a.2.2.1,bt x=true) (f:(∀x∈b.2.1,bt x=true)/\∀x∈b.2.2.1,bt x=true):Ep k (a,b,(),())=some ((cO a b,()),((),(),(),())):=by
 simp only[Ep,qh k a g,qh k b h,aa,cO]
 cases h1:a.1
 ·simp
 ·cases h2:b.1
  ·simp
   rw[<-h1]
  ·obtain⟨l1,l2⟩:=i h1 h2
   simp only[a0j,af,Bi _ _ l1 c.1 d,Bi _ _ l2 c.2 d,aa,sI _ _ e.1 f.1,sI _ _ e.2 f.2,a0z]
def ja (k:Nat) {e:aK} (h:e.2.1.length+e.2.2.1.length<=1000):FK k (e,())=some ((e.2.1++e.2.2.1,()),((),())):=by
 simp only[FK,a2m,a0q];rw[a0b (show(0+e.2.1.length)*16<=ai by unfold ai;omega),a0b (show(e.2.1.length+e.2.2.1.length)*16<=ai by unfold ai;omega)];simp only[ah]
def E0 (k:Nat) (l:List bo) {n:Nat} (a:n<=l.length) (b:l.length<=1000):Et k (l,(n:Int),())=some (((true,l.take n,l.drop n,()),()),((),(),())):=by
 simp only[Et,a2m,a0q,a0g];rw[a0b (show 0<=(n:Int)/\(n:Int)<=(l.length:Int) by omega),a0b (show(0+(l.take n).length)*16<=ai by simp only[a1m,ai];omega),a0b (show(0+(l.drop n).length)*16<=ai by simp only[a2u,ai];omega)];simp only[ah]
def ot {k:Nat} {a b:aK} (l:fD a) (m:fD b) (n:a.1=true->b.1=true->a.2.1.length=b.2.1.length/\a.2.2.1.length=b.2.2.1.length) (o:a.2.1.length+a.2.2.1.length<=1000) (d:b.2.1.length+b.2.2.1.length<=1000) (p:1000<k):AX k (a,b,())=some ((cO a b,()),((),(),())):=by
 simp only[AX,lS k a l,lS k b m,aa,cO]
 cases h1:a.1
 ·simp
 ·cases h2:b.1
  ·simp
   rw[<-h1]
  ·obtain⟨l1,l2⟩:=n h1 h2
   simp only[a0j,af,ja k o,ja k d,aa,a0z];have e:(a.2.1++a.2.2.1).length=(b.2.1++b.2.2.1).length:=by simp;omega
   have q:(a.2.1++a.2.2.1).length<=1000:=by simp;omega
   have g:fL (a.2.1++a.2.2.1) (b.2.1++b.2.2.1)=fL a.2.1 b.2.1++fL a.2.2.1 b.2.2.1:=by
    unfold fL;exact a6e l1
   refine aR (b:=AX.l0 k) (λi=>((true,a.2.1,a.2.2.1,()),(false,[],[],()),a.2.1++a.2.2.1,b.2.1++b.2.2.1,fL ((a.2.1++a.2.2.1).take i) ((b.2.1++b.2.2.1).take i),(i:Int),())) (a.2.1++a.2.2.1).length (λG i h=> ?_) (λG=> ?_) (by omega)
   ·have c:i<(b.2.1++b.2.2.1).length:=by omega
    have j:(fL ((a.2.1++a.2.2.1).take i) ((b.2.1++b.2.2.1).take i)).length<=1000:=by unfold fL;rw[a2n,a1m];omega
    simp only[AX.l0];rw[a0b (show(i:Int)<((a.2.1++a.2.2.1).length:Int) by omega),a0b (show 0<=(i:Int)/\(i:Int)<((a.2.1++a.2.2.1).length:Int) by omega),a0b (show 0<=(i:Int)/\(i:Int)<((b.2.1++b.2.2.1).length:Int) by omega)];simp only[ah,a0g,a0a h,a0a c,aa,oi];rw[a0b (by simp only[a0o,a0q,ai];omega),ah,au (i:=i) (by omega)]
    congr 1
    unfold fL;rw[lT eY _ _ h c]
   ·simp only[AX.l0]
    have f:(fL a.2.1 b.2.1).length=a.2.1.length:=by unfold fL;rw[a2n];omega
    rw[a0i (show¬((a.2.1++a.2.2.1).length:Int)<((a.2.1++a.2.2.1).length:Int) by omega),af,a1f,e,a1f,g,E0 k _ (by rw[a0m];omega) (by rw[<-g];unfold fL;rw[a2n];omega)];simp only[aa];rw[<-f,a6p,a8s]
def bq:aK:=(false,[],[],())
def iJ (op:Int):Int:=if op=15\/op=16 then op else if op=13 then 17 else if op=14 then 18 else if op=17 then 13 else 14
def gX (x:Ex):Bool:=match x with
 | .leaf t=>t.1==2
 |_=>false
def gN (op:Int) (x:Ex) (e:aK) (v:bo):aK:=cond (gX x) (cond (kW op (e.2.1.getD x.tok.2.1.toNat dA) v).2.1 (aU e x.tok.2.1 (kW op (e.2.1.getD x.tok.2.1.toNat dA) v).1) bq) e
def nf (d:ar) (leaf:Int) (op:Int) (a b:Ex) (e:aK):aK:=cond (aC (aB d e leaf a)&& aC (aB d e leaf b)) (cond (gN op a e (bu (aB d e leaf b))).1 (gN (iJ op) b (gN op a e (bu (aB d e leaf b))) (bu (aB d e leaf a))) bq) bq
def gm (d:ar) (leaf:Int):Ex->Bool->aK->aK
 | .leaf t,want,e=>cond e.1 (if(dY e leaf t).1=po want then e else bq) bq
 | .one _ a,want,e=>cond e.1 (gm d leaf a (!want) e) bq
 | .two t a b,want,e=>cond e.1 (if 13<=t.1/\t.1<=18 then nf d leaf (cond want t.1 (31-t.1)) a b e else if(t.1==20)=want then gm d leaf b want (gm d leaf a want e)else cO (gm d leaf a want e) (gm d leaf b want e)) bq
def aT (d:ar) (e:aK):Prop:=(e.1=true/\FQ d e/\(∀x∈e.2.1,bt x=true)/\∀x∈e.2.2.1,bt x=true)\/e=bq
def dS (d:ar):aT d bq:=Or.inr rfl
def ba {d:ar} {e:aK} (h:aT d e) (a:e.1=true):FQ d e/\(∀x∈e.2.1,bt x=true)/\∀x∈e.2.2.1,bt x=true:=by
 rcases h with h|h
 ·exact h.2
 ·rw[h]at a;cases a
def o7 {d:ar} {e:aK} (h:aT d e) (a:e.1=false):e=bq:=by
 rcases h with h|h
 ·rw[h.1]at a;cases a
 ·exact h
def bx {d:ar} (a:aN d=true) {e:aK} (h:aT d e):fD e/\e.2.1.length<=5/\e.2.2.1.length<=2:=by
 obtain⟨b,c,f⟩:d.1.length<=5/\d.2.1.length<=3/\d.2.2.1.length<=2:=by
  simp only[aN,a0f,a0u]at a;exact a.1
 rcases h with h|h
 ·have:=h.2.1.ints
  have:=h.2.1.arrs;exact⟨⟨by omega,by omega⟩,by omega,by omega⟩
 ·rw[h];exact⟨⟨by simp[bq],by simp[bq]⟩,by simp[bq],by simp[bq]⟩
def rt {a b:bo} (h:(dX a b).2.1=true):bt (dX a b).1=true:=by
 unfold dX at h⊢
 cases hc:(bG a b&& bt (ie a b))
 ·rw[hc]at h;exact absurd h (by simp)
 ·simp only[a0f]at hc
  exact hc.2
def C3 {c:bo} (h:(yc c).2.1=true):bt (yc c).1=true:=by
 unfold yc at h⊢
 cases hc:bt c
 ·rw[hc]at h;exact absurd h (by simp[Ht])
 ·exact hc
def O1 (r:CV):Prop:=r.2.1=true->bt r.1=true
def ru:O1 Ht:=λh=>by cases h
def K4 (op:Int) (a b:bo):O1 (kW op a b):=by
 unfold kW
 cases hc:(decide (13<=op/\op<=18)&& bG a b)
 ·exact ru
 ·have c:a.1<=a.2.1:=by
   simp only[a0f,bG,bt,a0u]at hc;exact hc.2.1
  simp only[a0z];split
  ·exactλh=>rt h
  split
  ·unfold mK
   split
   ·exactλ_=>a0b c
   split
   ·exact ru
   split
   ·exactλ_=>a0b (by simp only;omega)
   ·exactλ_=>a0b (by simp only;omega)
  split
  ·exactλh=>C3 h
  split
  ·exactλh=>C3 h
  split
  ·split
   ·exact ru
   ·exactλh=>C3 h
  ·split
   ·exact ru
   ·exactλh=>C3 h
def Nl {d:ar} {e:aK} (h:e.1=true/\FQ d e/\(∀x∈e.2.1,bt x=true)/\∀x∈e.2.2.1,bt x=true) (v:Int) {a:bo} (b:bc a) (c:bt a=true):aT d (aU e v a):=by
 refine Or.inl ⟨h.1,K3 h.2.1 b,λx f=> ?_,h.2.2.2⟩;rcases a3r f with h'|h'
 ·exact h.2.2.1 x h'
 ·rw[h'];exact c
def ym {d:ar} {e:aK} (g:FQ d e) {x:Ex} (h:x.Ok d) (c:gX x=true):∃t:ca,x= .leaf t/\t.1=2/\0<=t.2.1/\t.2.1.toNat<e.2.1.length:=by
 cases x with
 |leaf t=>
  have f:t.1=2:=by simpa [gX]using c
  obtain⟨i,j⟩:=rm h.2 f;exact⟨t,rfl,f,i,by rw[g.ints];exact j⟩
 |one t a=>cases c
 |two t a b=>cases c
def ll {d:ar} (op:Int) {x:Ex} (j:x.Ok d) {e:aK} (c:aT d e) (f:e.1=true) {v:bo} (k:bc v):aT d (gN op x e v):=by
 obtain⟨a,g,l⟩:=ba c f;unfold gN
 cases hq:gX x
 ·exact c
 ·obtain⟨t,rfl,m,n,h⟩:=ym a j hq
  simp only[Ex.tok];have i:e.2.1.getD t.2.1.toNat dA∈e.2.1:=by rw[aZ h];exact a0h h
  by_cases b:(kW op (e.2.1.getD t.2.1.toNat dA) v).2.1=true
  ·rw[cT rfl,cT b]
   exact Nl ⟨f,a,g,l⟩ _ (Nd op (a.fi _ i) k (g _ i)) (K4 op _ _ b)
  ·rw[cT rfl,cF (by simpa using b)]
   exact dS d
def HC {d:ar} (leaf op:Int) {a b:Ex} (f:a.Ok d) (h:b.Ok d) {e:aK} (i:aT d e) (j:e.1=true):aT d (nf d leaf op a b e):=by
 obtain⟨k,m,n⟩:=ba i j;unfold nf;by_cases l:(aC (aB d e leaf a)&& aC (aB d e leaf b))=true
 ·rw[cT l]
  have g:=ll op f i j (ce k leaf h).1;by_cases c:(gN op a e (bu (aB d e leaf b))).1=true
  ·rw[cT c]
   exact ll _ h g c (ce k leaf f).1
  ·rw[cF (by simpa using c)];exact dS d
 ·rw[cF (by simpa using l)];exact dS d
def mM {P:bo->Prop} {f:bo->bo->bo} (c:∀x y,P x->P y->P (f x y)):(a b:List bo)->(∀x∈a,P x)->(∀x∈b,P x)->∀x∈List.zipWith f a b,P x
 |[],b,_,_=>by simp
 |x::a,[],_,_=>by simp
 |x::a,y::b,ha,hb=>by
  intro z hz;simp only[a3q,a1s]at hz;rcases hz with hz|hz
  ·rw[hz];exact c x y (ha x (by simp)) (hb y (by simp))
  ·exact mM c a b (λz hz=>ha z (by simp[hz])) (λz hz=>hb z (by simp[hz])) z hz
def C4 {a b:bo} (c:bt a=true) (d:bt b=true):bt (eY a b)=true:=by
 simp only[bt,a0u]at c d⊢;simp only[eY];split<;>split<;>omega
def sJ {d:ar} {a b:aK} (j:aT d a) (k:aT d b):aT d (cO a b):=by
 unfold cO;by_cases f:a.1=true
 ·by_cases i:b.1=true
  ·rw[cT f,cT i]
   obtain⟨g,l,m⟩:=ba j f;obtain⟨h,n,o⟩:=ba k i;have l1:=g.ints;have l2:=h.ints;have p:=g.arrs;have q:=h.arrs;exact Or.inl ⟨rfl,⟨by simp only[fL,a2n];omega,by simp only[fL,a2n];omega,
    mM (λx y c e=>sz c e) _ _ g.fi h.fi,mM (λx y c e=>sz c e) _ _ g.fa h.fa⟩,
    mM (λx y c e=>C4 c e) _ _ l n,mM (λx y c e=>C4 c e) _ _ m o⟩
  ·rw[cT f,cF (by simpa using i)];exact j
 ·rw[cF (by simpa using f)];exact k
def fT {d:ar} (leaf:Int):∀ {x:Ex},x.Ok d->∀(c:Bool) {e:aK},aT d e->aT d (gm d leaf x c e)
 | .leaf t,hx,c,e,he=>by
  unfold gm;by_cases f:e.1=true
  ·rw[cT f]
   split
   ·exact he
   ·exact dS d
  ·rw[cF (by simpa using f)];exact dS d
 | .one t a,hx,c,e,he=>by
  unfold gm;by_cases f:e.1=true
  ·rw[cT f]
   exact fT leaf hx.2.2.2 (!c) he
  ·rw[cF (by simpa using f)];exact dS d
 | .two t a b,hx,c,e,he=>by
  unfold gm;by_cases f:e.1=true
  ·rw[cT f]
   split
   ·exact HC leaf _ hx.2.2.2.2.1 hx.2.2.2.2.2 he f
   split
   ·exact fT leaf hx.2.2.2.2.2 c (fT leaf hx.2.2.2.2.1 c he)
   ·exact sJ (fT leaf hx.2.2.2.2.1 c he) (fT leaf hx.2.2.2.2.2 c he)
  ·rw[cF (by simpa using f)];exact dS d
abbrev C5:=Int×Int×List ca×Unit
def fM:Ex->ck C5
 | .leaf t=> .node (t.1,t.2.1,[t],()) []
 | .one t a=> .node (t.1,t.2.1,a.flat++[t],()) [fM a]
 | .two t a b=> .node (t.1,t.2.1,a.flat++(b.flat++[t]),()) [fM a,fM b]
def Pu (x:Ex):(fM x).lab=(x.tok.1,x.tok.2.1,x.flat,()):=by
 cases x<;>rfl
def sK {k:Nat} (l:List ca) (N:l.length<=40) (g:∀t∈l,1<=t.1/\t.1<=21) {i:Nat} (h:i<l.length) (P C:List (ck C5)) (F S:List Int) (I:C.length=nT l[i].1) (J:S.length=C.length) (A:F.length=P.length) (O:P.length<=40) (s:Nat)
 (f:if nT l[i].1=0 then s=i else S[0]?=some (s:Int)) (K:s<=i+1) (G):
 AV.l0 k G (l,P++C,F++S,l,(l.length:Int),(i:Int),())=G (l,P++[.node (l[i].1,l[i].2.1,(l.take (i+1)).drop s,()) C],F++[(s:Int)],l,(l.length:Int),((i+1:Nat):Int),()):=by
 have Q:=EP l[i].1;have B:((i:Int)<(l.length:Int)):=by omega
 have D:(0:Int)<=(i:Int):=by omega
 have a:=g _ (a0h h);have j:wrap .i64 (((P++C).length:Int)-((nT l[i].1:Nat):Int))=(P.length:Int):=by rw[am (by simp;omega) (by simp;omega)];simp;omega
 have m:aQ (P++C) P.length ((P++C).length-P.length)=C:=by unfold aQ;simp
 have n:aQ (P++C) 0 (P.length-0)=P:=by unfold aQ;simp
 have o:aQ (F++S) 0 (P.length-0)=F:=by unfold aQ;simp[<-A]
 have a1:0<=(P.length:Int)/\(P.length:Int)<=((P++C).length:Int):=by simp only[a0m];omega
 have p:0<=(P.length:Int)/\(P.length:Int)<=((F++S).length:Int):=by simp;omega
 have b:∀v:ck C5,(P.length+([v]:List (ck C5)).length)*8<=ai:=by intro v;simp only[a0o,a0q,ai];omega
 have c:∀v:Int,(F.length+([v]:List Int).length)*8<=ai:=by intro v;simp only[a0o,a0q,ai];omega
 have d:(([]:List (ck C5)).length+C.length)*8<=ai:=by simp only[a0q,ai];omega
 have E:wrap .i64 ((i:Int)+1)=((i+1:Nat):Int):=au (by omega);by_cases H:nT l[i].1=0
 ·have q:C=[]:=a3o.1 (by omega)
  subst q;have e:S=[]:=a3o.1 (by simpa using J);subst e;rw[a0e H]at f;subst f;simp only[a2b]at j a1 p m n o⊢;have r:¬((P.length:Int)<(P.length:Int)):=by omega
  have u:0<=(s:Int)/\(s:Int)<=((s+1:Nat):Int)/\((s+1:Nat):Int)<=(l.length:Int):=by omega
  have w:aQ P P.length (P.length-P.length)=([]:List (ck C5)):=m;have x:aQ P 0 (P.length-0)=P:=n;have y:aQ F 0 (P.length-0)=F:=o;simp only[AV.l0,ak,a0e B,a0e D,a0g,a0a h,aa,rj k _ a,a1p,j,a0c r,E,a0e u,a0e a1,a0e p,w,x,y,a3h,List.isEmpty_nil,ah,vA,a0e (b _),a0e (c _)];rw[a0e d];exact vA _
 ·have e:0<S.length:=by omega
  rw[a0c H]at f;have r:((P.length:Int)<((P++C).length:Int)):=by simp;omega
  have L:0<=(P.length:Int)/\(P.length:Int)<((F++S).length:Int):=by simp;omega
  have M:(F++S)[P.length]?=some (s:Int):=by rw[a0w (by omega),A,a7e];exact f
  have u:0<=(s:Int)/\(s:Int)<=((i+1:Nat):Int)/\((i+1:Nat):Int)<=(l.length:Int):=by omega
  have z:C.isEmpty=false:=by cases C with|nil=>simp at I;omega|cons _ _=>rfl
  simp only[AV.l0,ak,a0e B,a0e D,a0g,a0a h,aa,rj k _ a,a1p,j,a0e r,a0e L,M,E,a0e u,a0e a1,a0e p,m,n,o,a3h,z,af,a0e d,a0e (b _),a0e (c _),a2m]
def mN {α:Type} {l a b:List α} {i:Nat} (h:l.drop i=a++b):l.drop (i+a.length)=b:=by
 rw[<-a4n,h];simp
def yn {α:Type} {l b:List α} {i:Nat} {t:α} (h:l.drop i=t::b):∃a:i<l.length,l[i]=t:=by
 have a:i<l.length:=by
  by_cases a:i<l.length
  ·exact a
  ·rw[a2a (by omega)]at h;cases h
 refine⟨a,?_⟩;rw[a1a a]at h;exact(List.cons.inj h).1
def yp {α:Type} {l a b:List α} {i:Nat} (h:l.drop i=a++b):(l.take (i+a.length)).drop i=a:=by
 rw[a8o,h];simp
def K5 {k:Nat} (l:List ca) (v:l.length<=40) (p:∀t∈l,1<=t.1/\t.1<=21) {d:ar}:∀(x:Ex),x.Ok d->∀(r:List ca) (i f:Nat) (P:List (ck C5)) (F:List Int),l.drop i=x.flat++r->F.length=P.length->P.length<=i->aG (AV.l0 k) (x.size+f) (l,P,F,l,(l.length:Int),(i:Int),())=aG (AV.l0 k) f (l,P++[fM x],F++[(i:Int)],l,(l.length:Int),((i+x.size:Nat):Int),()):=by
 intro x
 induction x with
 |leaf t=>
  intro g r i f P F j m u;obtain⟨q,n⟩:=yn (show l.drop i=t::r from j);have w:nT l[i].1=0:=by rw[n];exact g.1
  have h:=sK (k:=k) l v p q P [] F [] (by rw[w];rfl) rfl m (by omega) i (by rw[a0e w]) (by omega) (aG (AV.l0 k) f);rw[a2b,a2b]at h;show aG (AV.l0 k) (1+f) _=_;rw[show 1+f=f+1 by omega,aF,h];have o:=yp (a:=[t]) (show l.drop i=[t]++r from j);simp only[a0o,a0q]at o;rw[o,n];rfl
 |one t a ih=>
  intro g r i f P F j m u;have e:l.drop i=a.flat++([t]++r):=by rw[j];simp[Ex.flat]
  show aG (AV.l0 k) (a.size+1+f) _=_;rw[show a.size+1+f=a.size+(f+1) by omega,ih g.2.2.2 _ i (f+1) P F e m u];have c:=mN e;rw[Ex.flat_len]at c;obtain⟨q,n⟩:=yn (show l.drop (i+a.size)=t::r from c);have y:nT l[i+a.size].1=1:=by rw[n];exact g.1
  have h:=sK (k:=k) l v p q P [fM a] F [(i:Int)] (by rw[y];rfl) rfl m (by omega) i (by rw[a0c (by omega)];rfl) (by omega) (aG (AV.l0 k) f);rw[aF,h];have o:=yp (a:=a.flat++[t]) (b:=r) (i:=i) (l:=l) (by rw[j];rfl);rw[a0m,Ex.flat_len,a8m,<-a2o]at o;rw[o,n];rfl
 |two t a b iha ihb=>
  intro g r i f P F j m u;have e:l.drop i=a.flat++(b.flat++([t]++r)):=by rw[j];simp[Ex.flat]
  show aG (AV.l0 k) (a.size+b.size+1+f) _=_;rw[show a.size+b.size+1+f=a.size+(b.size+(f+1)) by omega,iha g.2.2.2.2.1 _ i _ P F e m u];have c:=mN e;rw[Ex.flat_len]at c;have z:=a.size_pos;rw[ihb g.2.2.2.2.2 _ (i+a.size) (f+1) _ _ c (by simp[m]) (by simp;omega)];have s:=mN c;rw[Ex.flat_len]at s;obtain⟨q,n⟩:=yn (show l.drop (i+a.size+b.size)=t::r from s);have A:nT l[i+a.size+b.size].1=2:=by rw[n];exact g.1
  have h:=sK (k:=k) l v p q P [fM a,fM b] F [(i:Int),((i+a.size:Nat):Int)] (by rw[A];rfl) rfl m (by omega) i (by rw[a0c (by omega)];rfl) (by omega) (aG (AV.l0 k) f);rw[aF,a1r,a1r];refine Eq.trans h ?_
  have o:=yp (a:=a.flat++(b.flat++[t])) (b:=r) (i:=i) (l:=l) (by rw[j];rfl);rw[a0m,a0m,Ex.flat_len,Ex.flat_len,a8m,<-a2o,<-a2o]at o;rw[o,n,show i+(Ex.two t a b).size=i+a.size+b.size+1 by simp only[Ex.size];omega];rfl
def K6 {k:Nat} (j:100<k) {d:ar} {x:Ex} (a:x.Ok d) (l:x.size<=40):AV k (x.flat,())=some ((fM x,()),((),())):=by
 have b:=Ex.flat_len x;have h:=K5 (k:=k) x.flat (by omega) (λt c=>ri (a.all t c)) x a [] 0 (k-x.size) [] [] (by simp) rfl (by simp);simp only[AV];rw[show x.size+(k-x.size)=k by omega]at h;refine Eq.trans h ?_
 obtain⟨f,e⟩:∃f,k-x.size=f+1:=⟨k-x.size-1,by omega⟩;have g:¬(((0+x.size:Nat):Int)<(x.flat.length:Int)):=by omega
 have i:(0:Int)<=0/\(0:Int)<(([fM x]:List (ck C5)).length:Int):=by simp
 rw[e,aF];simp only[AV.l0,ak,a0c g,a2m,a0e i,a3h,a1t,aa]
def Bj (k:Nat) {op:Int} (a:13<=op) (b:op<=18):qX k (op,())=some ((iJ op,()),((),())):=by
 have:op=13\/op=14\/op=15\/op=16\/op=17\/op=18:=by omega
 rcases this with rfl|rfl|rfl|rfl|rfl|rfl<;>simp[qX,iJ]
def yq {d:ar} {x:Ex} (e:x.Ok d):(x.tok.1==2)=gX x:=by
 cases x with
 |leaf t=>rfl
 |one t a=>
  have:nT t.1=1:=e.1;have c:¬t.1=2:=λh=>by rw[h]at this;simp[nT]at this
  simp[Ex.tok,gX,c]
 |two t a b=>
  have:nT t.1=2:=e.1;have c:¬t.1=2:=λh=>by rw[h]at this;simp[nT]at this
  simp[Ex.tok,gX,c]
def jZ {op:Int} {x:Ex} {e:aK} {v:bo} (h:gX x=false):gN op x e v=e:=by unfold gN;rw[cF h]
def j0 {op:Int} {x:Ex} {e:aK} {v:bo} (h:gX x=true) (a:(kW op (e.2.1.getD x.tok.2.1.toNat dA) v).2.1=true):gN op x e v=aU e x.tok.2.1 (kW op (e.2.1.getD x.tok.2.1.toNat dA) v).1:=by unfold gN;rw[cT h,cT a]
def jb {op:Int} {x:Ex} {e:aK} {v:bo} (h:gX x=true) (a:(kW op (e.2.1.getD x.tok.2.1.toNat dA) v).2.1=false):gN op x e v=bq:=by unfold gN;rw[cT h,cF a]
def rv {d:ar} {leaf op:Int} {a b:Ex} {e:aK} (h:(aC (aB d e leaf a)&& aC (aB d e leaf b))=false):nf d leaf op a b e=bq:=by unfold nf;rw[cF h]
def Bk {d:ar} {leaf op:Int} {a b:Ex} {e:aK} (h:(aC (aB d e leaf a)&& aC (aB d e leaf b))=true) (c:(gN op a e (bu (aB d e leaf b))).1=false):nf d leaf op a b e=bq:=by unfold nf;rw[cT h,cF c]
def rx {d:ar} {leaf op:Int} {a b:Ex} {e:aK} (h:(aC (aB d e leaf a)&& aC (aB d e leaf b))=true) (c:(gN op a e (bu (aB d e leaf b))).1=true):nf d leaf op a b e=gN (iJ op) b (gN op a e (bu (aB d e leaf b))) (bu (aB d e leaf a)):=by unfold nf;rw[cT h,cT c]
def uq {k:Nat} (F:4194304<k) {d:ar} (M:aN d=true) (leaf:Int) {op:Int} (G:13<=op) (H:op<=18) {a b:Ex} (r:a.Ok d) (u:b.Ok d) (N:a.size<=40) (O:b.size<=40) {e:aK} (w:aT d e) (o:e.1=true):zM k ((d.1,d.2.1,d.2.2.1,e.1,e.2.1,e.2.2.1,leaf,()),op,fM a,fM b,())=some ((nf d leaf op a b e,()),((),(),(),(),())):=by
 obtain⟨p,T,U⟩:=ba w o;have A:=(bx M w).1;have I:bc (bu (aB d e leaf a)):=(ce p leaf r).1;have J:bc (bu (aB d e leaf b)):=(ce p leaf u).1;simp only[zM,Pu,mL F p leaf r N,mL F p leaf u O,aa];have P:(aB d e leaf a).2.2.1=aC (aB d e leaf a):=rfl;have Q:(aB d e leaf b).2.2.1=aC (aB d e leaf b):=rfl;have B:((aB d e leaf a).1,(aB d e leaf a).2.1,())=bu (aB d e leaf a):=rfl;have C:((aB d e leaf b).1,(aB d e leaf b).2.1,())=bu (aB d e leaf b):=rfl;rw[P,Q,B,C,yq r,yq u]
 cases hla:aC (aB d e leaf a)
 ·simp only[a0v,ah,a0d]
  rw[rv (by rw[hla];rfl)];rfl
 cases hlb:aC (aB d e leaf b)
 ·simp only[a0v,a0j,af,ah,a0d]
  rw[rv (by rw[hla,hlb];rfl)];rfl
 have i:(aC (aB d e leaf a)&& aC (aB d e leaf b))=true:=by rw[hla,hlb];rfl
 have s:ze k ((e.1,e.2.1,e.2.2.1,()),())=some ((e,()),((),())):=qh k e A;simp only[a0j,af,a0d,s,aa];have g:∀m:aK,aT d m->m.1=true->m.2.1.length=e.2.1.length->gX b=true->0<=b.tok.2.1/\b.tok.2.1<(m.2.1.length:Int)/\m.2.1[b.tok.2.1.toNat]?=some (m.2.1.getD b.tok.2.1.toNat dA)/\bc (m.2.1.getD b.tok.2.1.toNat dA):=by
  intro m y D K c;obtain⟨L,V,W⟩:=ba y D;obtain⟨t,rfl,q,l,f⟩:=ym L u c;refine⟨l,by simp only[Ex.tok];omega,?_,?_⟩
  ·simp only[Ex.tok];rw[aZ f];exact a0a f
  ·simp only[Ex.tok];rw[aZ f];exact L.fi _ (a0h f)
 cases hva:gX a
 ·have n:=jZ (op:=op) (x:=a) (e:=e) (v:=bu (aB d e leaf b)) hva
  simp only[af];rw[rx i (by rw[n];exact o),n]
  cases c:gX b
  ·simp only[af]
   rw[jZ c]
  ·obtain⟨l,f,q,z⟩:=g e w o rfl c
   simp only[ah,Bj k G H,aa,a0b (And.intro l f),q,jm k (iJ op) z I];by_cases j:(kW (iJ op) (e.2.1.getD b.tok.2.1.toNat dA) (bu (aB d e leaf a))).2.1=true
   ·rw[j0 c j]
    simp only[j,a0j,af,aU]
   ·rw[jb c (by simpa using j)]
    simp only[a3z]at j;simp only[j,a0v,ah,bq]
 ·obtain⟨l,f⟩:0<=a.tok.2.1/\a.tok.2.1.toNat<e.2.1.length:=by
   obtain⟨t,rfl,q,l,f⟩:=ym p r hva;exact⟨l,f⟩
  have R:e.2.1[a.tok.2.1.toNat]?=some (e.2.1.getD a.tok.2.1.toNat dA):=by rw[aZ f];exact a0a f
  have S:bc (e.2.1.getD a.tok.2.1.toNat dA):=by rw[aZ f];exact p.fi _ (a0h f)
  have E:0<=a.tok.2.1/\a.tok.2.1<(e.2.1.length:Int):=by omega
  simp only[ah,a0b E,R,aa,jm k op S J];by_cases j:(kW op (e.2.1.getD a.tok.2.1.toNat dA) (bu (aB d e leaf b))).2.1=true
  ·have n:=j0 (op:=op) (x:=a) (e:=e) (v:=bu (aB d e leaf b)) hva j
   have y:=ll op r w o J;rw[n]at y;rw[rx i (by rw[n];exact o),n];simp only[j,a0j,af]
   cases c:gX b
   ·simp only[af]
    rw[jZ c];rfl
   ·obtain⟨l,f,q,z⟩:=g _ y o (by simp[aU]) c
    simp only[aU]at l f q z;simp only[ah,Bj k G H,aa,a0b (And.intro l f),q,jm k (iJ op) z I];by_cases h:(kW (iJ op) ((aU e a.tok.2.1 (kW op (e.2.1.getD a.tok.2.1.toNat dA) (bu (aB d e leaf b))).1).2.1.getD b.tok.2.1.toNat dA) (bu (aB d e leaf a))).2.1=true
    ·rw[j0 c h]
     simp only[aU]at h⊢;simp only[h,a0j,af]
    ·rw[jb c (by simpa using h)]
     simp only[aU,a3z]at h;simp only[h,a0v,ah,bq]
  ·have n:=jb (op:=op) (x:=a) (e:=e) (v:=bu (aB d e leaf b)) hva (by simpa using j)
   rw[Bk i (by rw[n];rfl)];simp only[a3z]at j;simp only[j,a0v,ah,bq]
def sL {d:ar} {t:ca} {a:Ex} (e:(Ex.one t a).Ok d) (f:(Ex.one t a).kind=2):t.1=19/\a.kind=2:=by
 have g:nT t.1=1:=e.1;have b:cH t.1=2:=f;have c:=e.2.2.1;rcases Qa g with h|h|h
 ·rw[h]at b;simp[cH]at b
 ·rw[h]at b;simp[cH]at b
 ·refine⟨h,?_⟩
  rw[c,h];rfl
def sM {d:ar} {t:ca} {a b:Ex} (g:(Ex.two t a b).Ok d) (l:(Ex.two t a b).kind=2):(13<=t.1/\t.1<=18)\/((t.1=20\/t.1=21)/\a.kind=2/\b.kind=2):=by
 have i:nT t.1=2:=g.1;have c:cH t.1=2:=l;have m:=ri g.2.1;have j:13<=t.1:=by
  unfold cH at c;unfold nT at i;by_cases n:t.1<=5
  ·rw[a0e n]at i;omega
  ·rw[a0c (by omega)]at c
   by_cases k:t.1<=12
   ·rw[a0e k]at c;omega
   ·omega
 by_cases e:t.1<=18
 ·exact Or.inl ⟨j,e⟩
 ·have o:t.1≠19:=λh=>by rw[h]at i;simp[nT]at i
  have f:kT t.1=2:=by unfold kT;rw[a0c (by omega),a0c e]
  exact Or.inr ⟨by omega,by rw[g.2.2.1,f],by rw[g.2.2.2.1,f]⟩
def ka {d:ar} {leaf:Int} {x:Ex} {a:Bool} {e:aK} (h:e.1=false):gm d leaf x a e=bq:=by
 cases x<;>(unfold gm;rw[cF h])
def Bl {d:ar} {leaf:Int} {t:ca} {a:Bool} {e:aK} (h:e.1=true):gm d leaf (.leaf t) a e=if(dY e leaf t).1=po a then e else bq:=by
 conv=>lhs;unfold gm
 rw[cT h]
def E3 {d:ar} {leaf:Int} {t:ca} {a:Ex} {b:Bool} {e:aK} (h:e.1=true):gm d leaf (.one t a) b e=gm d leaf a (!b) e:=by
 conv=>lhs;unfold gm
 rw[cT h]
def E4 {d:ar} {leaf:Int} {t:ca} {a b:Ex} {c:Bool} {e:aK} (h:e.1=true):gm d leaf (.two t a b) c e=if 13<=t.1/\t.1<=18 then nf d leaf (cond c t.1 (31-t.1)) a b e else if(t.1==20)=c then gm d leaf b c (gm d leaf a c e)else cO (gm d leaf a c e) (gm d leaf b c e):=by
 conv=>lhs;unfold gm
 rw[cT h]
def HD {k:Nat} (S:4194304<k) {d:ar} (A:aN d=true) (leaf:Int):∀(x:Ex),x.Ok d->x.kind=2->x.size<=40->∀(c:Bool) (e:aK),aT d e->∀f,x.depth<f->aG (nm.f k) f ((d.1,d.2.1,d.2.2.1,e.1,e.2.1,e.2.2.1,leaf,()),fM x,c,())=some ((gm d leaf x c e,()),((),(),(),())):=by
 intro x
 induction x with
 |leaf t=>
  intro j p J c e n f K;obtain⟨f,rfl⟩:∃g,f=g+1:=⟨f-1,by omega⟩;rw[aF];have i:(fM (.leaf t)).lab=(t.1,t.2.1,[t],()):=rfl;simp only[nm.f,i]
  cases hl:e.1
  ·rw[ka hl]
   simp only[a0v,ah,bq]
  ·obtain⟨Z,hi,hr⟩:=ba n hl
   have h0:nT t.1=0:=j.1;have h5:=P1 h0;have v:=Bg k Z.ints leaf j.2;unfold iO at v;rw[hl]at v;have B:ze k ((true,e.2.1,e.2.2.1,()),())=some ((e,()),((),())):=by
    have:=qh k e (bx A n).1;rw[<-hl];exact this
   have o:(t.1==19)=false:=by simp;omega
   have w:(t.1==20)=false:=by simp;omega
   have q:(t.1==21)=false:=by simp;omega
   have y:decide (13<=t.1/\t.1<=18)=false:=by simp;omega
   have C:uK k ((d.1,d.2.1,d.2.2.1,true,e.2.1,e.2.2.1,leaf,()),(t.1,t.2.1,()),())=some ((dY e leaf t,()),((),(),())):=v;simp only[a0j,af,o,w,q,a0d,dC,y,aa,C,o6,B];rw[Bl hl];by_cases r:(dY e leaf t).1=po c
   ·have:((dY e leaf t).1 !=po c)=false:=by simp[r]
    rw[a0e r,this,af]
   ·have:((dY e leaf t).1 !=po c)=true:=by simp[r]
    rw[a0c r,this,ah];rfl
 |one t a ih=>
  intro j p J c e n f K;obtain⟨f,rfl⟩:∃g,f=g+1:=⟨f-1,by omega⟩;obtain⟨M,z⟩:=sL j p;rw[aF];have i:(fM (.one t a)).lab=(t.1,t.2.1,a.flat++[t],()):=rfl;have l:(fM (.one t a)).kids=[fM a]:=rfl;simp only[nm.f,i,l]
  cases hl:e.1
  ·rw[ka hl]
   simp only[a0v,ah,bq]
  ·have N:(t.1==19)=true:=by simp[M]
   have:=ih j.2.2.2 z (by simp only[Ex.size]at J;omega) (!c) e n f (by simp only[Ex.depth]at K;omega);rw[hl]at this;simp only[a0j,af,N,ah,a0b (show(0:Int)<=0 by omega),a3h,a1t,aa,this];rw[E3 hl]
 |two t a b iha ihb=>
  intro j p J c e n f K;obtain⟨f,rfl⟩:∃g,f=g+1:=⟨f-1,by omega⟩;rw[aF];have i:(fM (.two t a b)).lab=(t.1,t.2.1,a.flat++(b.flat++[t]),()):=rfl;have l:(fM (.two t a b)).kids=[fM a,fM b]:=rfl;have m:a.size<=40/\b.size<=40:=by simp only[Ex.size]at J;omega
  have D:a.depth<f/\b.depth<f:=by simp only[Ex.depth]at K;omega
  simp only[nm.f,i,l]
  cases hl:e.1
  ·rw[ka hl]
   simp only[a0v,ah,bq]
  ·have T:((0:Int).toNat)=0:=rfl
   have U:((1:Int).toNat)=1:=rfl;have V:([fM a,fM b]:List (ck C5))[1]?=some (fM b):=rfl;rw[E4 hl];rcases sM j p with⟨s,u⟩|⟨E,z,O⟩
   ·have o:(t.1==19)=false:=by simp;omega
    have w:(t.1==20)=false:=by simp;omega
    have q:(t.1==21)=false:=by simp;omega
    have aD:=uq S A leaf (op:=t.1) s u j.2.2.2.2.1 j.2.2.2.2.2 m.1 m.2 n hl;have F:=uq S A leaf (op:=31-t.1) (by omega) (by omega) j.2.2.2.2.1 j.2.2.2.2.2 m.1 m.2 n hl;rw[hl]at aD F;rw[a0e ⟨s,u⟩];simp only[a0j,af,o,w,q,a0d,dC,a0b (And.intro s u),aa,ah,ui k s u,a0b (show(0:Int)<=0 by omega),a0b (show(0:Int)<=1 by omega),T,U,a1t,V,aD,F]
    cases c
    ·simp only[a0v,ah,a1q]
    ·simp only[a0j,af,a0z]
   ·have o:(t.1==19)=false:=by simp;omega
    have y:¬(13<=t.1/\t.1<=18):=by omega
    have W:=iha j.2.2.2.2.1 z m.1 c e n f D.1;have X:=λe' P=>ihb j.2.2.2.2.2 O m.2 c e' P f D.2
    have L:=fT leaf j.2.2.2.2.1 c n;have Q:=fT leaf j.2.2.2.2.2 c n;have G:=X e n;have R:=X _ L;rw[hl]at W G;have hj:Ep k (gm d leaf a c e,gm d leaf b c e,(()),())=some ((cO (gm d leaf a c e) (gm d leaf b c e),()),((),(),(),())):=by
     have s1:=bx A L;have s2:=bx A Q;refine uo s1.1 s2.1 (λl1 l2=> ?_) (by omega) (by omega) ?_ ?_
     ·have Y:=(ba L l1).1
      have E2:=(ba Q l2).1;exact⟨Y.ints.trans E2.ints.symm,Y.arrs.trans E2.arrs.symm⟩
     ·rcases L with h|h
      ·exact h.2.2
      ·rw[h];simp[bq]
     ·rcases Q with h|h
      ·exact h.2.2
      ·rw[h];simp[bq]
    rw[a0c y];have H:(br k (t.1==20) (br k c (some (true,())) (br k (t.1==21) (some (!c,())) (some (false,())))) (br k (t.1==21) (some (!c,())) (some (false,()))):Option (Bool×Unit))=some ((t.1==20)==c,()):=by
     rcases E with h20|h21
     ·have q:(t.1==21)=false:=by simp;omega
      rw[h20]
      cases c<;>simp
     ·rw[h21]
      cases c<;>simp
    have I:(br k (t.1==20) (some (true,())) (some (t.1==21,())):Option (Bool×Unit))=some (true,()):=by
     rcases E with h20|h21
     ·rw[h20];simp
     ·rw[h21];simp
    simp only[a0j,af,o,H,I,a0d,ah,a0b (show(0:Int)<=0 by omega),a0b (show(0:Int)<=1 by omega),T,U,a1t,V,aa,W,G,R,hj];by_cases r:(t.1==20)=c
    ·rw[a0e r,r,a5b,ah]
    ·have:((t.1==20)==c)=false:=by simpa using r
     rw[a0c r,this,af]
def c8 (d:ar) (leaf:Int) (x:Ex) (a:Bool) (e:aK):aK:=cond (aC (aB d e leaf x)&& hasV (bu (aB d e leaf x)) (po a)) (gm d leaf x a e) bq
where hasV (a:bo) (n:Int):Bool:=eG a n
def Nm {k:Nat} (h:4194304<k) {d:ar} (l:aN d=true) (leaf:Int) {x:Ex} (b:x.Ok d) (c:x.kind=2) (f:x.size<=40) (a:Bool) {e:aK} (i:aT d e) (j:e.1=true):JW k ((d.1,d.2.1,d.2.2.1,e.1,e.2.1,e.2.2.1,leaf,()),x.flat,a,())=some ((c8 d leaf x a e,bJ (aB d e leaf x),()),((),(),(),())):=by
 obtain⟨m,r,s⟩:=ba i j;have n:=HD h l leaf x b c f a e i k (by have:=x.depth_le;omega);have g:nm k ((d.1,d.2.1,d.2.2.1,e.1,e.2.1,e.2.2.1,leaf,()),fM x,a,())=some ((gm d leaf x a e,()),((),(),(),())):=n;have o:(aB d e leaf x).2.2.1=aC (aB d e leaf x):=rfl;have p:((aB d e leaf x).1,(aB d e leaf x).2.1,())=bu (aB d e leaf x):=rfl;have q:(aB d e leaf x).2.2.2.1=bJ (aB d e leaf x):=rfl;simp only[JW,mL h m leaf b f,aa,o6,mH,K6 (show 100<k by omega) b f,g];rw[o,p,q];unfold c8 c8.hasV
 cases j:aC (aB d e leaf x)
 ·simp only[a0v,ah,a0d,a3n,a1q,bq]
 ·cases hh:eG (bu (aB d e leaf x)) (po a)
  ·simp only[a0j,af,a0v,ah,a0d,a1i,a1q,bq]
  ·simp only[a0j,af,a0d,a1i,a0z]
def dF {d:ar} (leaf:Int) {x:Ex} (b:x.Ok d) (a:Bool) {e:aK} (c:aT d e):aT d (c8 d leaf x a e):=by
 unfold c8
 cases hc:(aC (aB d e leaf x)&& c8.hasV (bu (aB d e leaf x)) (po a))
 ·exact dS d
 ·exact fT leaf b a c
def HE {k:Nat} (l:List ca) (B:l.length<=40) {d:ar}:∀(x:Ex),x.Ok d->∀(A r:List ca) (m f:Nat),l=A++(x.flat++r)->m+x.size<=80->aG (p9.l0 k) (x.size+f) (l,((m+1:Nat):Int),((A.length+x.size:Nat):Int)-1,())=if m=0 then some (((A.length:Int),()),((),(),()))else aG (p9.l0 k) f (l,(m:Int),(A.length:Int)-1,()):=by
 have step:∀(t:ca) (A r:List ca) (c f:Nat),l=A++(t::r)->c<=80->aG (p9.l0 k) (f+1) (l,((c+1:Nat):Int),(A.length:Int),())=if c+nT t.1=0 then some (((A.length:Int),()),((),(),()))else aG (p9.l0 k) f (l,((c+nT t.1:Nat):Int),(A.length:Int)-1,()):=by
  intro t A r c f e C;have D:A.length<l.length:=by rw[e];simp
  have n:l[A.length]?=some t:=by rw[e,a0w (a1l _)];simp
  have s:=EP t.1;have w1:wrap .i64 (((c+1:Nat):Int)-1)=(c:Int):=by rw[am (by omega) (by omega)];omega
  have u:wrap .i64 ((c:Int)+(nT t.1:Int))=((c+nT t.1:Nat):Int):=by rw[am (by omega) (by omega)];omega
  have v:wrap .i64 ((A.length:Int)-1)=(A.length:Int)-1:=am (by omega) (by omega);rw[aF];simp only[p9.l0,a0b (show(A.length:Int)>=0 by omega),a0b (show 0<=(A.length:Int) by omega),ah,a0g,n,aa,kx,w1,u,v,cg];by_cases p:c+nT t.1=0
  ·rw[a0e p,a0e (by omega)]
  ·rw[a0c p,a0c (by omega)]
 intro x
 induction x with
 |leaf t=>
  intro g A r m f e i;have w:nT t.1=0:=g.1;have:=step t A r m f e (by simp only[Ex.size]at i;omega);rw[w]at this;refine Eq.trans ?_ this
  have j:(((A.length+(Ex.leaf t).size:Nat):Int)-1)=(A.length:Int):=by simp only[Ex.size];omega
  rw[j,show(Ex.leaf t).size+f=f+1 by simp only[Ex.size];omega]
 |one t a ih=>
  intro g A r m f e i;have y:nT t.1=1:=g.1;have h:l=(A++a.flat)++(t::r):=by rw[e];simp[Ex.flat]
  have o:m+(a.size+1)<=80:=i;have:=step t (A++a.flat) r m (a.size+f) h (by omega);rw[y,a0c (by omega),a0m,Ex.flat_len]at this;have j:(((A.length+(Ex.one t a).size:Nat):Int)-1)=((A.length+a.size:Nat):Int):=by simp only[Ex.size];omega
  rw[j,show(Ex.one t a).size+f=a.size+f+1 by simp only[Ex.size];omega,this];exact ih g.2.2.2 A (t::r) m f (by rw[e];simp[Ex.flat]) (by omega)
 |two t a b iha ihb=>
  intro g A r m f e i;have z:nT t.1=2:=g.1;have h:l=(A++(a.flat++b.flat))++(t::r):=by rw[e];simp[Ex.flat]
  have o:m+(a.size+b.size+1)<=80:=i;have:=step t (A++(a.flat++b.flat)) r m (b.size+(a.size+f)) h (by omega);rw[z,a0c (by omega),a0m,a0m,Ex.flat_len,Ex.flat_len]at this;have j:(((A.length+(Ex.two t a b).size:Nat):Int)-1)=((A.length+(a.size+b.size):Nat):Int):=by simp only[Ex.size];omega
  rw[j,show(Ex.two t a b).size+f=b.size+(a.size+f)+1 by simp only[Ex.size];omega,this];have E:l.length=A.length+((Ex.two t a b).size+r.length):=by rw[e];simp[Ex.flat_len]
  have F:(Ex.two t a b).size=a.size+b.size+1:=rfl;have q:=ihb g.2.2.2.2.2 (A++a.flat) (t::r) (m+1) (a.size+f) (by rw[e];simp[Ex.flat]) (by have:=a.size_pos;omega);rw[a0c (by omega),a0m,Ex.flat_len]at q;rw[show A.length+(a.size+b.size)=A.length+a.size+b.size by omega];refine Eq.trans q ?_
  exact iha g.2.2.2.2.1 A (b.flat++(t::r)) m f (by rw[e];simp[Ex.flat]) (by omega)
def Nn {k:Nat} (c:100<k) {d:ar} {x:Ex} (a:x.Ok d) (e:x.size<=40) (A r:List ca) (b:(A++(x.flat++r)).length<=40):p9 k (A++(x.flat++r),((A.length+x.size:Nat):Int)-1,())=some (((A.length:Int),()),((),(),())):=by
 have h:=HE (k:=k) (A++(x.flat++r)) b x a A r 0 (k-x.size) rfl (by omega);rw[a0e rfl,show x.size+(k-x.size)=k by omega]at h;exact h
def Bm (k:Nat) {op:Int} (a:13<=op) (b:op<=18):Hb k (op,())=some ((iJ op,()),((),())):=by
 have:op=13\/op=14\/op=15\/op=16\/op=17\/op=18:=by omega
 rcases this with rfl|rfl|rfl|rfl|rfl|rfl<;>simp[Hb,iJ,IntKind.wrap_i64]
def IE (k:Nat) {d:ar} {x:Ex} (c:x.Ok d):(br k ((x.flat.length:Int)==1) (br k (decide (0<=(0:Int))) (bd k (x.flat[(0:Int).toNat]?) λy=>some (y.1==2,())) none) (some (false,())):Option (Bool×Unit))=some (gX x,()):=by
 cases x with
 |leaf t=>simp[Ex.flat,gX]
 |one t a=>
  have:(((Ex.one t a).flat.length:Int)==1)=false:=by
   rw[Ex.flat_len];have:=a.size_pos;simp only[Ex.size];simp;omega
  rw[this,af];rfl
 |two t a b=>
  have:(((Ex.two t a b).flat.length:Int)==1)=false:=by
   rw[Ex.flat_len];have:=a.size_pos;simp only[Ex.size];simp;omega
  rw[this,af];rfl
def E5 {k:Nat} (H:4194304<k) {d:ar} (A:aN d=true) (leaf:Int) {op:Int} (I:13<=op) (J:op<=18) {a b:Ex} (o:a.Ok d) (p:b.Ok d) (P:a.size<=40) (Q:b.size<=40) {e:aK} (B:aT d e) (q:e.1=true):zT k (d,a.flat,b.flat,op,e,leaf,())=some ((nf d leaf op a b e,()),((),(),(),(),(),(),())):=by
 obtain⟨r,X,Y⟩:=ba B q;have R:d.2.1.length<=3:=by
  simp only[aN,a0f,a0u]at A;exact A.1.2.1
 have s:=(bx A B).1;have K:bc (bu (aB d e leaf a)):=(ce r leaf o).1;have L:bc (bu (aB d e leaf b)):=(ce r leaf p).1;simp only[zT,i8 H r (by omega) leaf o P,i8 H r (by omega) leaf p Q,aa,IE k o,IE k p,a0d];have S:(aB d e leaf a).2.2.1=aC (aB d e leaf a):=rfl;have T:(aB d e leaf b).2.2.1=aC (aB d e leaf b):=rfl;have C:((aB d e leaf a).1,(aB d e leaf a).2.1,())=bu (aB d e leaf a):=rfl;have D:((aB d e leaf b).1,(aB d e leaf b).2.1,())=bu (aB d e leaf b):=rfl;rw[S,T,C,D]
 cases hla:aC (aB d e leaf a)
 ·simp only[a0v,ah,a0d]
  rw[rv (by rw[hla];rfl)];rfl
 cases hlb:aC (aB d e leaf b)
 ·simp only[a0v,a0j,af,ah,a0d]
  rw[rv (by rw[hla,hlb];rfl)];rfl
 have h:(aC (aB d e leaf a)&& aC (aB d e leaf b))=true:=by rw[hla,hlb];rfl
 simp only[a0j,af,a0d];have first:∀ {x:Ex},x.Ok d->gX x=true->x.flat[0]?=some x.tok:=by
  intro x Z M
  cases x with
  |leaf t=>rfl
  |one t a=>cases M
  |two t a b=>cases M
 have g:∀m:aK,aT d m->m.1=true->m.2.1.length=e.2.1.length->gX b=true->0<=b.tok.2.1/\b.tok.2.1<(m.2.1.length:Int)/\m.2.1[b.tok.2.1.toNat]?=some (m.2.1.getD b.tok.2.1.toNat dA)/\bc (m.2.1.getD b.tok.2.1.toNat dA):=by
  intro m u E N c;obtain⟨O,i1,r1⟩:=ba u E;obtain⟨t,rfl,w,i,f⟩:=ym O p c;refine⟨i,by simp only[Ex.tok];omega,?_,?_⟩
  ·simp only[Ex.tok];rw[aZ f];exact a0a f
  ·simp only[Ex.tok];rw[aZ f];exact O.fi _ (a0h f)
 cases hva:gX a
 ·have n:=jZ (op:=op) (x:=a) (e:=e) (v:=bu (aB d e leaf b)) hva
  simp only[af];rw[rx h (by rw[n];exact q),n]
  cases c:gX b
  ·simp only[af]
   rw[jZ c]
  ·obtain⟨i,f,w,F⟩:=g e B q rfl c
   simp only[ah,Bm k I J,aa,a0b (show(0:Int)<=0 by omega),a3h,first p c,a0b i,w,jm,lC k (iJ op) F K,gE k s (And.intro i f)];by_cases j:(kW (iJ op) (e.2.1.getD b.tok.2.1.toNat dA) (bu (aB d e leaf a))).2.1=true
   ·rw[j0 c j]
    simp only[j,a0j,af,aU]
   ·rw[jb c (by simpa using j)]
    simp only[a3z]at j;simp only[j,a0v,ah,bq]
 ·obtain⟨i,f⟩:0<=a.tok.2.1/\a.tok.2.1.toNat<e.2.1.length:=by
   obtain⟨t,rfl,w,i,f⟩:=ym r o hva;exact⟨i,f⟩
  have U:e.2.1[a.tok.2.1.toNat]?=some (e.2.1.getD a.tok.2.1.toNat dA):=by rw[aZ f];exact a0a f
  have V:bc (e.2.1.getD a.tok.2.1.toNat dA):=by rw[aZ f];exact r.fi _ (a0h f)
  have G:0<=a.tok.2.1/\a.tok.2.1<(e.2.1.length:Int):=by omega
  simp only[ah,a0b (show(0:Int)<=0 by omega),a3h,first o hva,a0b i,U,aa,lC k op V L,gE k s G];by_cases j:(kW op (e.2.1.getD a.tok.2.1.toNat dA) (bu (aB d e leaf b))).2.1=true
  ·have n:=j0 (op:=op) (x:=a) (e:=e) (v:=bu (aB d e leaf b)) hva j
   have u:=ll op o B q L;rw[n]at u;rw[rx h (by rw[n];exact q),n];simp only[j,a0j,af]
   cases c:gX b
   ·simp only[af]
    rw[jZ c]
   ·obtain⟨i,f,w,F⟩:=g _ u q (by simp[aU]) c
    have y:=(bx A u).1;have W:=λz=>gE k y (And.intro i f) z
    simp only[ah,Bm k I J,aa,a0b (show(0:Int)<=0 by omega),a3h,first p c,a0b (And.intro i f),w,lC k (iJ op) F K];by_cases l:(kW (iJ op) ((aU e a.tok.2.1 (kW op (e.2.1.getD a.tok.2.1.toNat dA) (bu (aB d e leaf b))).1).2.1.getD b.tok.2.1.toNat dA) (bu (aB d e leaf a))).2.1=true
    ·rw[j0 c l]
     simp only[l,a0j,af];rw[W,aa]
    ·rw[jb c (by simpa using l)]
     simp only[a3z]at l;simp only[l,a0v,ah,bq]
  ·have n:=jb (op:=op) (x:=a) (e:=e) (v:=bu (aB d e leaf b)) hva (by simpa using j)
   rw[Bk h (by rw[n];rfl)];simp only[a3z]at j;simp only[j,a0v,ah,bq]
def HF {k:Nat} (N:4194304<k) {d:ar} (v:aN d=true) (leaf:Int):∀(x:Ex),x.Ok d->x.kind=2->x.size<=40->∀(c:Bool) (e:aK),aT d e->∀f,x.depth<f->aG (np.f k) f (d,x.flat,c,e,leaf,())=some ((gm d leaf x c e,()),((),(),(),(),(),())):=by
 have Q:d.2.1.length<=3:=by
  simp only[aN,a0f,a0u]at v;exact v.1.2.1
 intro x
 induction x with
 |leaf t=>
  intro i m C c e j f D;obtain⟨f,rfl⟩:∃g,f=g+1:=⟨f-1,by omega⟩;rw[aF];have l:(Ex.leaf t).flat=[t]:=rfl;simp only[np.f,l]
  cases hl:e.1
  ·rw[ka hl,<-o7 j hl]
   simp only[a0v,ah]
  ·obtain⟨R,hi,hr⟩:=ba j hl
   have E:nT t.1=0:=i.1;have h5:=P1 E;have w:wrap .i64 ((([t]:List ca).length:Int)-1)=0:=by rw[am (by simp) (by simp)];simp
   have q:(t.1==19)=false:=by simp;omega
   have y:=EW k R leaf i.2 E (by omega);have r:uT k (d,t,e,leaf,())=some ((dl (dY e leaf t),()),((),(),(),(),())):=y;have S:(dl (dY e leaf t)).1=(dY e leaf t).1:=rfl;simp only[a0j,af,w,a0b (show(0:Int)<=0 by omega),ah,a3h,a1t,aa,q,kx,E,r,yg,S,cg];rw[a0c (show¬t.1=19 by omega),a0e (show((0:Nat):Int)=0 from rfl),Bl hl];by_cases n:(dY e leaf t).1=po c
   ·rw[a0e n,a0e n]
   ·rw[a0c n,a0c n]
    rfl
 |one t a ih=>
  intro i m C c e j f D;obtain⟨f,rfl⟩:∃g,f=g+1:=⟨f-1,by omega⟩;obtain⟨F,s⟩:=sL i m;rw[aF];have l:(Ex.one t a).flat=a.flat++[t]:=rfl;simp only[np.f,l]
  cases hl:e.1
  ·rw[ka hl,<-o7 j hl]
   simp only[a0v,ah]
  ·have z:(a.flat++[t]).length=a.size+1:=by simp[Ex.flat_len]
   have G:a.size+1<=40:=C;have w:wrap .i64 (((a.flat++[t]).length:Int)-1)=(a.size:Int):=by rw[am (by omega) (by omega)];omega
   have H:(a.flat++[t])[a.size]?=some t:=by rw[a0w (by rw[Ex.flat_len];exact a1l _),Ex.flat_len];simp
   have T:(a.flat++[t]).take a.size=a.flat:=by rw[<-Ex.flat_len a,a6p]
   have I:(t.1==19)=true:=by simp[F]
   have:=ih i.2.2.2 s (by omega) (!c) e j f (by simp only[Ex.depth]at D;omega);simp only[a0j,af,w,a0b (show 0<=(a.size:Int) by omega),a0b (show 0<=(a.size:Int)/\(a.size:Int)<=((a.flat++[t]).length:Int) by omega),ah,a0g,H,aa,I,T,this];rw[E3 hl]
 |two t a b iha ihb=>
  intro i m C c e j f D;obtain⟨f,rfl⟩:∃g,f=g+1:=⟨f-1,by omega⟩;rw[aF];have l:(Ex.two t a b).flat=a.flat++(b.flat++[t]):=rfl;simp only[np.f,l]
  cases hl:e.1
  ·rw[ka hl,<-o7 j hl]
   simp only[a0v,ah]
  ·have G:a.size+b.size+1<=40:=C
   have u:a.depth<f/\b.depth<f:=by simp only[Ex.depth]at D;omega
   have J:nT t.1=2:=i.1;have z:(a.flat++(b.flat++[t])).length=a.size+b.size+1:=by simp[Ex.flat_len];omega
   have w:wrap .i64 (((a.flat++(b.flat++[t])).length:Int)-1)=((a.size+b.size:Nat):Int):=by rw[am (by omega) (by omega)];omega
   have U:wrap .i64 (((a.size+b.size:Nat):Int)-1)=((a.flat.length+b.size:Nat):Int)-1:=by have:=a.size_pos;rw[am (by omega) (by omega),Ex.flat_len]
   have H:(a.flat++(b.flat++[t]))[a.size+b.size]?=some t:=by
    rw[a0w (by rw[Ex.flat_len];omega),Ex.flat_len,a0w (by rw[Ex.flat_len];omega),Ex.flat_len,show a.size+b.size-a.size-b.size=0 by omega];rfl
   have K:=Nn (k:=k) (by omega) i.2.2.2.2.2 (by omega) a.flat [t] (by omega);have V:(a.flat++(b.flat++[t])).take a.flat.length=a.flat:=a6p;have W:((a.flat++(b.flat++[t])).take (a.size+b.size)).drop a.flat.length=b.flat:=by
    rw[<-a1r,<-Ex.flat_len a,<-Ex.flat_len b,<-a0m,a6p,a8s]
   have X:=Ex.flat_len a;have ia:=iha i.2.2.2.2.1;have q:(t.1==19)=false:=by
    have:t.1≠19:=λh=>by rw[h]at J;simp[nT]at J
    simpa using this
   simp only[a0j,af,w,a0b (show 0<=((a.size+b.size:Nat):Int) by omega),ah,a0g,H,aa,q,kx,J,U,K,V,W,a0b (show 0<=(a.flat.length:Int)/\(a.flat.length:Int)<=((a.flat++(b.flat++[t])).length:Int) by omega),a0b (show 0<=(a.flat.length:Int)/\(a.flat.length:Int)<=((a.size+b.size:Nat):Int)/\((a.size+b.size:Nat):Int)<=((a.flat++(b.flat++[t])).length:Int) by omega)];have Y:((((2:Nat):Int))==0)=false:=rfl;rw[Y,af,E4 hl];simp only[qZ,jP,aa];rcases sM i m with⟨o,p⟩|⟨Z,s,A⟩
   ·have aD:=E5 N v leaf (op:=t.1) o p i.2.2.2.2.1 i.2.2.2.2.2 (by omega) (by omega) j hl
    have L:=E5 N v leaf (op:=31-t.1) (by omega) (by omega) i.2.2.2.2.1 i.2.2.2.2.2 (by omega) (by omega) j hl;rw[a0e ⟨o,p⟩,a0b (And.intro o p),ah,EN k o p];simp only[aa,aD,L]
    cases c
    ·simp only[af,a1q]
    ·simp only[ah,a0z]
   ·have B:¬(13<=t.1/\t.1<=18):=by omega
    have M:=fT leaf i.2.2.2.2.1 c j;have O:=fT leaf i.2.2.2.2.2 c j;have hj:AX k (gm d leaf a c e,gm d leaf b c e,())=some ((cO (gm d leaf a c e) (gm d leaf b c e),()),((),(),())):=by
     have s1:=bx v M;have s2:=bx v O;refine ot s1.1 s2.1 (λl1 l2=> ?_) (by omega) (by omega) (by omega);have P:=(ba M l1).1;have E2:=(ba O l2).1;exact⟨P.ints.trans E2.ints.symm,P.arrs.trans E2.arrs.symm⟩
    rw[a0c B,a0i B,af,iha i.2.2.2.2.1 s (by omega) c e j f u.1];simp only[aa];rw[ihb i.2.2.2.2.2 A (by omega) c _ M f u.2,ihb i.2.2.2.2.2 A (by omega) c e j f u.2];simp only[aa,hj];by_cases n:(t.1==20)=c
    ·rw[a0e n,n,a5b,ah]
    ·have:((t.1==20)==c)=false:=by simpa using n
     rw[a0c n,this,af]
def K7 {k:Nat} (h:4194304<k) {d:ar} (b:aN d=true) (leaf:Int) {x:Ex} (i:x.Ok d) (c:x.kind=2) (j:x.size<=40) (a:Bool) {e:aK} (f:aT d e) (l:e.1=true):EB k (d,x.flat,a,e,leaf,())=some ((c8 d leaf x a e,bJ (aB d e leaf x),()),((),(),(),(),(),())):=by
 obtain⟨m,s,t⟩:=ba f l;have n:d.2.1.length<=3:=by
  simp only[aN,a0f,a0u]at b;exact b.1.2.1
 have o:=HF h b leaf x i c j a e f k (by have:=x.depth_le;omega);have g:np k (d,x.flat,a,e,leaf,())=some ((gm d leaf x a e,()),((),(),(),(),(),())):=o;have p:(aB d e leaf x).2.2.1=aC (aB d e leaf x):=rfl;have q:((aB d e leaf x).1,(aB d e leaf x).2.1,())=bu (aB d e leaf x):=rfl;have r:(aB d e leaf x).2.2.2.1=bJ (aB d e leaf x):=rfl;simp only[EB,i8 h m (by omega) leaf i j,aa,yg,mI,lS k e (bx b f).1,g];rw[p,q,r];unfold c8 c8.hasV
 cases l:aC (aB d e leaf x)
 ·simp only[a0v,ah,a0d,a3n,a1q,bq]
 ·cases hh:eG (bu (aB d e leaf x)) (po a)
  ·simp only[a0j,af,a0v,ah,a0d,a1i,a1q,bq]
  ·simp only[a0j,af,a0d,a1i,a0z]
abbrev bM:=Int×Int×Unit
def ur (e:bM):Bool:=decide (0<=e.1/\e.1<=29)&& decide (0<=e.2.1/\e.2.1<=4)
def bf (t:List bM):Bool:=decide (t.length<=3)&& t.all ur
def yr {e:bM} (h:ur e=true):(0<=e.1/\e.1<=29)/\(0<=e.2.1/\e.2.1<=4):=by
 unfold ur at h;rw[a0f]at h;exact⟨a0x h.1,a0x h.2⟩
def ou (k:Nat) (m:4194304<k) (t:List bM):Co k (t,())=some ((bf t,()),((),())):=by
 unfold Co bf;simp only[ak];by_cases g:(t.length:Int)<=3
 ·have c:t.length<=3:=by omega
  rw[a0e g,a0b c,a1i];obtain⟨n,h,a⟩:=eu (b:=xf.l0 k) (λi=>(t,(((()),()),()),(t.length:Int),(i:Int),())) t (λe=> !ur e) (o:=((),(((()),()),()),())) (λG i j=>by
   have a:((i:Int)<(t.length:Int)):=by omega
   have l:(0:Int)<=(i:Int):=by omega
   simp only[xf.l0,ME,MD,dC,ak (p:=(i:Int)<(t.length:Int)),ak (p:=(0:Int)<=(i:Int)),a0e a,a0e l,a0g,a0a j,aa];rw[au (by omega),ur]
   cases decide (0<=t[i].1/\t[i].1<=29)<;>cases decide (0<=t[i].2.1/\t[i].2.1<=4)<;>simp) (λG=>by
   have a:¬((t.length:Int)<(t.length:Int)):=by omega
   simp only[xf.l0,ak,a0c a]) (f:=k) (by omega)
  unfold MG MF xf;have d:aG (xf.l0 k) k (t,(((()),()),()),(t.length:Int),0,())=some ((n,()),((),(((()),()),()),())):=h;simp only[d,aa,a,iG,a7h]
 ·have:decide (t.length<=3)=false:=by simp;omega
  rw[a0c g,this];rfl
def ox (k:Nat) (l:4194304<k) (t:List bM):Ip k (t,())=some ((bf t,()),((),())):=by
 unfold Ip bf;simp only[ak];by_cases d:(t.length:Int)>3
 ·have:decide (t.length<=3)=false:=by simp;omega
  rw[a0e d,this];rfl
 ·have a:t.length<=3:=by omega
  rw[a0c d,a0b a,a1i];have h:=gl (b:=Ip.l0 k) (λi=>(t,(i:Int),())) t (λe=> !ur e) (rf:=some ((false,()),((),()))) (r:=some ((true,()),((),()))) (λG i g=>by
   have c:((i:Int)<(t.length:Int)):=by omega
   have j:(0:Int)<=(i:Int):=by omega
   simp only[Ip.l0,ak,a0e c,a0e j,a0g,a0a g,aa,jP];rw[au (by omega),ur]
   cases decide (0<=t[i].1/\t[i].1<=29)<;>cases decide (0<=t[i].2.1/\t[i].2.1<=4)<;>simp) (λG=>by
   have c:¬((t.length:Int)<(t.length:Int)):=by omega
   simp only[Ip.l0,ak,a0c c]) (f:=k) (by omega)
  refine Eq.trans h ?_
  rw[iG]
  cases t.all ur<;>rfl
def jR (x y:bM):Int:=if x.1<y.1 then-1 else if x.1>y.1 then 1 else if x.2.1<y.2.1 then-1 else if x.2.1>y.2.1 then 1 else 0
def nq:List bM->List bM->Int
 |x::a,y::b=>if jR x y=0 then nq a b else jR x y
 |_,_=>0
def cy (a b:List bM):Int:=if a.length<b.length then-1 else if a.length>b.length then 1 else nq a b
def HG (k:Nat) (x y:Int):Jz k (x,y,())=some ((if x<y then-1 else if x>y then 1 else 0,()),((),(),())):=by
 unfold Jz Jy;simp only[aa,a1x,af,ak];by_cases a:x<y
 ·simp only[a0e a]
 ·by_cases b:x>y
  ·simp only[a0c a,a0e b]
  ·simp only[a0c a,a0c b]
def C6 (k:Nat) (x y:Int):G6 k (x,y,())=some ((if x<y then-1 else if x>y then 1 else 0,()),((),(),())):=by
 unfold G6 JA;simp only[aa,a1x,af,ak];by_cases a:x<y
 ·simp only[a0e a]
 ·by_cases b:x>y
  ·simp only[a0c a,a0e b]
  ·simp only[a0c a,a0c b]
def O2 (k:Nat) (d:4194304<k) (x y:Int):JB k (([x,y]:List Int),())=some ((if x=0 then y else x,()),((),())):=by
 obtain⟨j,rfl⟩:∃j,k=j+3:=⟨k-3,by omega⟩;unfold JB;simp only[a0o,a0q];rw[aF];simp only[JB.l0,ak];rw[a0e (by decide),a0e (by decide)];by_cases a:x=0
 ·subst a
  simp only[a3h,a1t,aa,a1x,af,a0e];rw[am (by decide) (by decide),aF];simp only[JB.l0,ak];rw[a0e (by decide),a0e (by decide)];by_cases c:y=0
  ·subst c
   have e:([0,0]:List Int)[((0:Int)+1).toNat]?=some 0:=rfl;simp only[e,aa,a1x,af];rw[am (by decide) (by decide),aF];simp only[JB.l0,ak];rw[a0c (by decide)]
  ·have e:([0,y]:List Int)[((0:Int)+1).toNat]?=some y:=rfl
   have b:(y !=0)=true:=by simpa using c
   simp only[e,aa,b,ah]
 ·have b:(x !=0)=true:=by simpa using a
  simp only[a3h,a1t,aa,b,ah,a0c a]
def OD (k:Nat) (c:4194304<k) (x y:bM):JC k (x,y,())=some ((jR x y,()),((),(),())):=by
 unfold JC;simp only[C6,O2 k c,aa];unfold jR;by_cases a:x.1<y.1
 ·simp[a]
 ·by_cases b:x.1>y.1
  ·simp[a,b]
  ·simp[a,b]
def sN {a b:List bM} {i:Nat} (c:i<a.length) (d:i<b.length):nq (a.drop i) (b.drop i)=if jR a[i] b[i]=0 then nq (a.drop (i+1)) (b.drop (i+1))else jR a[i] b[i]:=by
 rw[a1a c,a1a d];rfl
def E6 (a b:List bM) {i:Nat} (c:a.length<=i):nq (a.drop i) (b.drop i)=0:=by
 rw[a2a c];cases b.drop i<;>rfl
def yt (k:Nat) (t:4194304<k) (a b:List bM) (x:a.length<=1048576):∃n:Int,zK k (a,b,(()),())=some ((n,()),((),(),(()),()))/\(a.length=b.length->n=nq a b):=by
 have l:∀(n i f:Nat),i+n=a.length->n<f->∃m:Int,aG (zK.l0 k) f (a,b,(()),a,(a.length:Int),(i:Int),())=some ((m,()),((),(),(()),()))/\(a.length=b.length->m=nq (a.drop i) (b.drop i)):=by
  intro n
  induction n with
  |zero=>
   intro i f u v;obtain⟨f,rfl⟩:∃g,f=g+1:=⟨f-1,by omega⟩;have o:¬((i:Int)<(a.length:Int)):=by omega
   rw[aF];simp only[zK.l0,ak,a0c o];by_cases r:(a.length:Int)<(b.length:Int)
   ·exact⟨-1,by rw[a0e r],λh=>by omega⟩
   ·exact⟨0,by rw[a0c r],λh=>by rw[E6 a b (by omega)]⟩
  |succ n ih=>
   intro i f u v;obtain⟨f,rfl⟩:∃g,f=g+1:=⟨f-1,by omega⟩;have c:i<a.length:=by omega
   have o:((i:Int)<(a.length:Int)):=by omega
   have w:(0:Int)<=(i:Int):=by omega
   rw[aF];simp only[zK.l0,ak,a0e o,a0e w,a0g,a0a c,aa];by_cases s:(i:Int)>=(b.length:Int)
   ·exact⟨1,by rw[a0e s],λh=>by omega⟩
   ·have d:i<b.length:=by omega
    rw[a0c s];simp only[a0a d,aa,OD k t];rw[au (by omega)];by_cases j:jR a[i] b[i]=0
    ·have e:(jR a[i] b[i] !=0)=false:=by simpa using j
     obtain⟨m,p,q⟩:=ih (i+1) f (by omega) (by omega);refine⟨m,by rw[e,af];exact p,λh=> ?_⟩;rw[sN c d,a0e j];exact q h
    ·have e:(jR a[i] b[i] !=0)=true:=by simpa using j
     exact⟨jR a[i] b[i],by rw[e,ah],λh=>by rw[sN c d,a0c j]⟩
 obtain⟨m,p,q⟩:=l a.length 0 k (by omega) (by omega);exact⟨m,p,λh=>q h⟩
def kC (k:Nat) (f:4194304<k) (a b:List bM) (h:a.length<=1048576):Ej k (a,b,())=some ((cy a b,()),((),(),())):=by
 unfold Ej cy;obtain⟨n,i,j⟩:=yt k f a b h;simp only[HG,i,O2 k f,aa];by_cases e:a.length<b.length
 ·have c:(a.length:Int)<(b.length:Int):=by omega
  rw[a0e c,a0e e];rfl
 ·by_cases g:a.length>b.length
  ·have c:¬(a.length:Int)<(b.length:Int):=by omega
   have d:(a.length:Int)>(b.length:Int):=by omega
   rw[a0c c,a0e d,a0c e,a0e g];rfl
  ·have c:¬(a.length:Int)<(b.length:Int):=by omega
   have d:¬(a.length:Int)>(b.length:Int):=by omega
   rw[a0c c,a0c d,a0c e,a0c g,a0e rfl,j (by omega)]
def qj (k:Nat) (y:4194304<k) (a b:List bM) (l:bf a=true) (m:bf b=true):Ha k (a,b,())=some ((cy a b,()),((),(),())):=by
 unfold bf at l m;rw[a0f]at l m;have z:=a0x l.1;have s:=λi (h:i<a.length)=>yr (a1e.1 l.2 a[i] (a0h h))
 have t:=λi (h:i<b.length)=>yr (a1e.1 m.2 b[i] (a0h h))
 unfold Ha cy;by_cases u:a.length=b.length
 ·have o:((a.length:Int) !=(b.length:Int))=false:=by simp[u]
  simp only[o,af];rw[a0c (by omega),a0c (by omega)];have p:∀(n i f:Nat),i+n=a.length->n<f->aG (Ha.l0 k) f (a,b,(i:Int),())=some ((nq (a.drop i) (b.drop i),()),((),(),())):=by
   intro n
   induction n with
   |zero=>
    intro i f v w;obtain⟨f,rfl⟩:∃g,f=g+1:=⟨f-1,by omega⟩;have q:¬((i:Int)<(a.length:Int)):=by omega
    rw[aF,E6 a b (by omega)];simp only[Ha.l0,ak,a0c q]
   |succ n ih=>
    intro i f v w;obtain⟨f,rfl⟩:∃g,f=g+1:=⟨f-1,by omega⟩;have c:i<a.length:=by omega
    have d:i<b.length:=by omega
    have q:((i:Int)<(a.length:Int)):=by omega
    have x:(0:Int)<=(i:Int):=by omega
    have A:=s i c;have B:=t i d;rw[aF,sN c d];simp only[Ha.l0,ak,a0e q,a0e x,a0g,a0a c,a0a d,aa];rw[am (n:=10*a[i].1) (by omega) (by omega),am (n:=10*b[i].1) (by omega) (by omega),am (n:=10*a[i].1+a[i].2.1) (by omega) (by omega),am (n:=10*b[i].1+b[i].2.1) (by omega) (by omega),au (by omega)];by_cases c1:10*a[i].1+a[i].2.1<10*b[i].1+b[i].2.1
    ·have e:jR a[i] b[i]= -1:=by
      unfold jR;by_cases j:a[i].1<b[i].1
      ·rw[a0e j]
      ·rw[a0c j,a0c (by omega),a0e (by omega)]
     rw[a0e c1,e];rfl
    ·by_cases c2:10*a[i].1+a[i].2.1>10*b[i].1+b[i].2.1
     ·have e:jR a[i] b[i]=1:=by
       unfold jR;by_cases j:a[i].1>b[i].1
       ·rw[a0c (by omega),a0e j]
       ·rw[a0c (by omega),a0c j,a0c (by omega),a0e (by omega)]
      rw[a0c c1,a0e c2,e];rfl
     ·have e:jR a[i] b[i]=0:=by
       unfold jR;rw[a0c (by omega),a0c (by omega),a0c (by omega),a0c (by omega)]
      rw[a0c c1,a0c c2,a0e e];exact ih (i+1) f (by omega) (by omega)
  exact p a.length 0 k (by omega) (by omega)
 ·have o:((a.length:Int) !=(b.length:Int))=true:=by simp;omega
  simp only[o,ah,ak];by_cases r:a.length<b.length
  ·rw[a0e (show(a.length:Int)<(b.length:Int) by omega),a0e r]
  ·rw[a0c (show¬(a.length:Int)<(b.length:Int) by omega),a0c r,a0e (by omega)]
def fG (d:ar) (t:List aK):Bool:=decide ((t.length:Int)=2^d.2.1.length)&& t.all (fZ d)
def fU (t:List aK):Bool:=t.any λe=>e.1
def E7 {n:Nat} (h:n<=3):wrap .i64 (1*2^(min n 64))=2^n:=by
 have:n=0\/n=1\/n=2\/n=3:=by omega
 rcases this with rfl|rfl|rfl|rfl<;>decide
def sO (k:Nat) (d:ar) (h:d.2.1.length<=3):zO k (d,())=some (((2:Int)^d.2.1.length,()),((),())):=by
 unfold zO;have w:wrap .u64 (d.2.1.length:Int)=(d.2.1.length:Int):=iF (by omega) (by omega);have a:(0:Int)<=(d.2.1.length:Int):=by omega
 simp only[w,ak,a0e a,a0g,E7 h]
def sP (k:Nat) (d:ar) (h:d.2.1.length<=3):oU k (d,())=some (((2:Int)^d.2.1.length,()),((),())):=by
 unfold oU;have a:(0:Int)<=(d.2.1.length:Int):=by omega
 simp only[ak,a0e a,a0g,E7 h]
def HH {d:ar} (h:aN d=true):d.1.length<=5/\d.2.1.length<=3/\d.2.2.1.length<=2:=by
 unfold aN at h;rw[a0f]at h;exact a0x h.1
def yu (k:Nat) (j:4194304<k) (d:ar) (l:fC d) (a:aN d=true) (t:List aK) (s:t.length<=1048576) (n:∀e∈t,fD e):r9 k (d,t,())=some ((fG d t,()),((),(),())):=by
 have o:=(HH a).2.1;unfold r9 fG;simp only[gW k j d l,a,aa,a0j,af,sO k d o,a0d];by_cases c:(t.length:Int)=2^d.2.1.length
 ·have b:((t.length:Int) !=2^d.2.1.length)=false:=by simpa using c
  rw[b,af,a0b c,a1i];have h:=gl (b:=r9.l0 k) (λi=>(t,(d.1,d.2.1,d.2.2.1,()),(i:Int),())) t (λe=> !fZ d e) (rf:=some ((false,()),((),(),()))) (r:=some ((true,()),((),(),()))) (λG i m=>by
   have g:((i:Int)<(t.length:Int)):=by omega
   have p:(0:Int)<=(i:Int):=by omega
   have q:uQ k ((d.1,d.2.1,d.2.2.1,()),t[i],())=some ((Iv d t[i],()),((),(),())):=CF k j d l t[i] (n _ (a0h m));simp only[r9.l0,ak,a0e g,a0e p,a0g,a0a m,aa,q,Iv,a,a1i];rw[au (by omega)]
   cases fZ d t[i]<;>simp) (λG=>by
   have g:¬((t.length:Int)<(t.length:Int)):=by omega
   simp only[r9.l0,ak,a0c g]) (f:=k) (by omega)
  refine Eq.trans h ?_
  rw[iG]
  cases t.all (fZ d)<;>rfl
 ·have b:((t.length:Int) !=2^d.2.1.length)=true:=by simpa using c
  rw[b,ah,a0i c];rfl
def C7 (k:Nat) (h:4194304<k) (d:ar) (t:List aK) (p:t.length<=1048576) (j:∀e∈t,fD e):JE k (t,(d,()),())=some ((t.all (fZ d),()),((),((),()),())):=by
 obtain⟨n,l,a⟩:=eu (b:=xj.l0 k) (λi=>(t,(((d,()),()),()),(t.length:Int),(i:Int),())) t (λe=> !fZ d e) (o:=((),(((d,()),()),()),())) (λG i g=>by
  have a:((i:Int)<(t.length:Int)):=by omega
  have m:(0:Int)<=(i:Int):=by omega
  simp only[xj.l0,ML,M3 k h d t[i] (j _ (a0h g)),ak,a0e a,a0e m,a0g,a0a g,aa];rw[au (by omega)]
  cases fZ d t[i]<;>simp) (λG=>by
  have a:¬((t.length:Int)<(t.length:Int)):=by omega
  simp only[xj.l0,ak,a0c a]) (f:=k) (by omega)
 unfold JE MM xj;have c:aG (xj.l0 k) k (t,(((d,()),()),()),(t.length:Int),0,())=some ((n,()),((),(((d,()),()),()),())):=l;simp only[c,aa,a,iG,a7h]
def HI (k:Nat) (c:4194304<k) (d:ar) (f:d.2.1.length<=3) (t:List aK) (g:t.length<=1048576) (h:∀e∈t,fD e):JF k (d,t,())=some ((fG d t,()),((),(),())):=by
 unfold JF fG MH;simp only[aa,sP k d f,C7 k c d t g h];by_cases a:(t.length:Int)=2^d.2.1.length
 ·have b:((t.length:Int)==2^d.2.1.length)=true:=by simpa using a
  rw[b,ah,a0b a,a1i]
 ·have b:((t.length:Int)==2^d.2.1.length)=false:=by simpa using a
  rw[b,af,a0i a];rfl
def K8 (k:Nat) (g:4194304<k) (t:List aK) (j:t.length<=1048576):uM k (t,())=some ((fU t,()),((),())):=by
 have h:=gl (b:=uM.l0 k) (λi=>(t,(i:Int),())) t (λe=>e.1) (rf:=some ((true,()),((),()))) (r:=some ((false,()),((),()))) (λG i c=>by
  have a:((i:Int)<(t.length:Int)):=by omega
  have d:(0:Int)<=(i:Int):=by omega
  simp only[uM.l0,ak,a0e a,a0e d,a0g,a0a c,aa];rw[au (by omega)]
  cases t[i].1<;>simp) (λG=>by
  have a:¬((t.length:Int)<(t.length:Int)):=by omega
  simp only[uM.l0,ak,a0c a]) (f:=k) (by omega)
 unfold uM;refine Eq.trans h ?_
 unfold fU
 cases t.any λe=>e.1<;>rfl
def kD (st:List Int) (a b:List bo):List bo:=List.zipWith (λx y=>jQ x y st) a b
def lU (st:List Int) (a b:aK):aK:=cond a.1 (cond b.1 (true,kD st a.2.1 b.2.1,kD st a.2.2.1 b.2.2.1,()) a) b
def No:Option (List Int)->aK->aK->aK
 |none=>cO
 |some st=>lU st
def jS (w:Option (List Int)) (a b:List aK):List aK:=List.zipWith (No w) a b
def Ad {k:Nat} (st:List Int) {a b:aK} (n:fD a) (o:fD b) (g:a.1=true->b.1=true->a.2.1.length=b.2.1.length/\a.2.2.1.length=b.2.2.1.length) (h:a.2.1.length+a.2.2.1.length<=1000) (c:b.2.1.length+b.2.2.1.length<=1000) (p:1000<k):uO k (a,b,st,())=some ((lU st a b,()),((),(),(),())):=by
 have q:=ot n o g h c p;simp only[uO,q,aa,lU]
 cases h1:a.1
 ·simp only[a0v,ah,a0d,cO,h1,a1q]
 ·cases h2:b.1
  ·simp only[a0j,a0v,af,ah,a0d,cO,h1,h2,a1q,a0z]
   rw[<-h1]
  ·obtain⟨l1,l2⟩:=g h1 h2
   simp only[a0j,af,ja k h,ja k c,aa,a0z,a0d];have e:(a.2.1++a.2.2.1).length=(b.2.1++b.2.2.1).length:=by simp;omega
   have r:(a.2.1++a.2.2.1).length<=1000:=by simp;omega
   have j:kD st (a.2.1++a.2.2.1) (b.2.1++b.2.2.1)=kD st a.2.1 b.2.1++kD st a.2.2.1 b.2.2.1:=by
    unfold kD;exact a6e l1
   refine aR (b:=uO.l0 k) (λi=>(st,(true,a.2.1,a.2.2.1,()),(false,[],[],()),a.2.1++a.2.2.1,b.2.1++b.2.2.1,kD st ((a.2.1++a.2.2.1).take i) ((b.2.1++b.2.2.1).take i),(i:Int),())) (a.2.1++a.2.2.1).length (λG i l=> ?_) (λG=> ?_) (by omega)
   ·have d:i<(b.2.1++b.2.2.1).length:=by omega
    have m:(kD st ((a.2.1++a.2.2.1).take i) ((b.2.1++b.2.2.1).take i)).length<=1000:=by unfold kD;rw[a2n,a1m];omega
    simp only[uO.l0];rw[a0b (show(i:Int)<((a.2.1++a.2.2.1).length:Int) by omega),a0b (show 0<=(i:Int)/\(i:Int)<((a.2.1++a.2.2.1).length:Int) by omega),a0b (show 0<=(i:Int)/\(i:Int)<((b.2.1++b.2.2.1).length:Int) by omega)];simp only[ah,a0g,a0a l,a0a d,aa,CH _ _ st (show 100<k by omega)];rw[a0b (by simp only[a0o,a0q,ai];omega),ah,au (i:=i) (by omega)]
    congr 1
    unfold kD;rw[lT (λx y=>jQ x y st) _ _ l d]
   ·simp only[uO.l0]
    have f:(kD st a.2.1 b.2.1).length=a.2.1.length:=by unfold kD;rw[a2n];omega
    rw[a0i (show¬((a.2.1++a.2.2.1).length:Int)<((a.2.1++a.2.2.1).length:Int) by omega),af,a1f,e,a1f,j,E0 k _ (by rw[a0m];omega) (by rw[<-j];unfold kD;rw[a2n];omega)];simp only[aa];rw[<-f,a6p,a8s]
structure jI (d:ar) (t:List aK):Prop where
 n:t.length=2^d.2.1.length
 e:∀x∈t,aT d x
def dZ {d:ar} (a:aN d=true):d.1.length<=5/\d.2.1.length<=3/\d.2.2.1.length<=2:=by
 simp only[aN,a0f,a0u]at a;exact a.1
def fV {d:ar} (a:aN d=true) {t:List aK} (h:jI d t):t.length<=8:=by
 rw[h.n];have:=(dZ a).2.1;have b:d.2.1.length=0\/d.2.1.length=1\/d.2.1.length=2\/d.2.1.length=3:=by omega
 rcases b with h|h|h|h<;>rw[h]<;>decide
def lV {d:ar} {a b:aK} (e:aT d a) (f:aT d b):a.1=true->b.1=true->a.2.1.length=b.2.1.length/\a.2.2.1.length=b.2.2.1.length:=by
 intro g h;have c:=(ba e g).1;have E2:=(ba f h).1;exact⟨c.ints.trans E2.ints.symm,c.arrs.trans E2.arrs.symm⟩
def E8 {d:ar} {a:aK} (b:aT d a):(∀x∈a.2.1,bt x=true)/\∀x∈a.2.2.1,bt x=true:=by
 rcases b with h|h
 ·exact h.2.2
 ·rw[h];simp[bq]
def mO {k:Nat} (g:1000<k) {d:ar} (f:aN d=true) {a b:aK} (c:aT d a) (e:aT d b):Ep k (a,b,(),())=some ((cO a b,()),((),(),(),())):=by
 have h:=bx f c;have i:=bx f e;exact uo h.1 i.1 (lV c e) (by omega) g (E8 c) (E8 e)
def C8 {k:Nat} (g:1000<k) {d:ar} (c:aN d=true) {a b:aK} (e:aT d a) (f:aT d b):AX k (a,b,())=some ((cO a b,()),((),(),())):=by
 have h:=bx c e;have i:=bx c f;exact ot h.1 i.1 (lV e f) (by omega) (by omega) g
def Ae {k:Nat} (g:1000<k) (st:List Int) {d:ar} (c:aN d=true) {a b:aK} (e:aT d a) (f:aT d b):uO k (a,b,st,())=some ((lU st a b,()),((),(),(),())):=by
 have h:=bx c e;have i:=bx c f;exact Ad st h.1 i.1 (lV e f) (by omega) (by omega) g
def E9 {k:Nat} (m:1000<k) {d:ar} (h:aN d=true) {a b:List aK} (f:jI d a) (j:jI d b):xq k (a,b,(),())=some ((jS none a b,()),((),(),(),())):=by
 have l1:=fV h f;have o:a.length=b.length:=by rw[f.n,j.n]
 simp only[xq];refine aR (b:=xq.l0 k) (λi=>(b,(),jS none (a.take i) (b.take i),a,(a.length:Int),(i:Int),())) a.length (λG i g=> ?_) (λG=> ?_) (by omega)
 ·have c:i<b.length:=by omega
  have l:(jS none (a.take i) (b.take i)).length<=8:=by unfold jS;rw[a2n,a1m];omega
  have p:=mO m h (f.e _ (a0h g)) (j.e _ (a0h c));simp only[xq.l0];rw[a0b (show(i:Int)<(a.length:Int) by omega),a0b (show(0:Int)<=(i:Int) by omega)];simp only[ah,a0g,a0a g,a0a c,aa,p];rw[a0b (by simp only[a0o,a0q,ai];omega),ah,au (i:=i) (by omega)];unfold jS;rw[lT (No none) a b g c];rfl
 ·simp only[xq.l0]
  rw[a0i (show¬(a.length:Int)<(a.length:Int) by omega),af,a1f,o,a1f]
def Fa {k:Nat} (m:1000<k) {d:ar} (h:aN d=true) {a b:List aK} (f:jI d a) (j:jI d b):uN k (a,b,())=some ((jS none a b,()),((),(),())):=by
 have l1:=fV h f;have o:a.length=b.length:=by rw[f.n,j.n]
 simp only[uN];refine aR (b:=uN.l0 k) (λi=>(a,b,jS none (a.take i) (b.take i),(i:Int),())) a.length (λG i g=> ?_) (λG=> ?_) (by omega)
 ·have c:i<b.length:=by omega
  have l:(jS none (a.take i) (b.take i)).length<=8:=by unfold jS;rw[a2n,a1m];omega
  have p:=C8 m h (f.e _ (a0h g)) (j.e _ (a0h c));simp only[uN.l0];rw[a0b (show(i:Int)<(a.length:Int) by omega),a0b (show(0:Int)<=(i:Int) by omega)];simp only[ah,a0g,a0a g,a0a c,aa,p];rw[a0b (by simp only[a0o,a0q,ai];omega),ah,au (i:=i) (by omega)];unfold jS;rw[lT (No none) a b g c];rfl
 ·simp only[uN.l0]
  rw[a0i (show¬(a.length:Int)<(a.length:Int) by omega),af,a1f,o,a1f]
def Fb {k:Nat} (m:1000<k) (st:List Int) {d:ar} (h:aN d=true) {a b:List aK} (f:jI d a) (j:jI d b):uP k (a,b,st,())=some ((jS (some st) a b,()),((),(),(),())):=by
 have l1:=fV h f;have o:a.length=b.length:=by rw[f.n,j.n]
 simp only[uP];refine aR (b:=uP.l0 k) (λi=>(a,b,st,jS (some st) (a.take i) (b.take i),(i:Int),())) a.length (λG i g=> ?_) (λG=> ?_) (by omega)
 ·have c:i<b.length:=by omega
  have l:(jS (some st) (a.take i) (b.take i)).length<=8:=by unfold jS;rw[a2n,a1m];omega
  have p:=Ae m st h (f.e _ (a0h g)) (j.e _ (a0h c));simp only[uP.l0];rw[a0b (show(i:Int)<(a.length:Int) by omega),a0b (show(0:Int)<=(i:Int) by omega)];simp only[ah,a0g,a0a g,a0a c,aa,p];rw[a0b (by simp only[a0o,a0q,ai];omega),ah,au (i:=i) (by omega)];unfold jS;rw[lT (No (some st)) a b g c];rfl
 ·simp only[uP.l0]
  rw[a0i (show¬(a.length:Int)<(a.length:Int) by omega),af,a1f,o,a1f]
def Bn {P:Int->Prop} {f:Int->Int->Int} (l:List Int) (a:∀m x,P m->x∈l->P (f m x)):∀m,P m->P (l.foldl f m):=by
 induction l with
 |nil=>exactλm h=>h
 |cons y l ih=>exactλm h=>ih (λm x b c=>a m x b (by simp[c])) _ (a m y h (by simp))
def ut (l:List Int) (b:Int) (a:ay b):ay (qe l b)/\qe l b<=b:=by
 refine Bn (P:=λm=>ay m/\m<=b) l (λm x c _=> ?_) _ ⟨by unfold ay;omega,a.1⟩;obtain⟨⟨a1,d⟩,e⟩:=c;obtain⟨f,g⟩:=a;unfold ay
 repeat (split<;>try omega)
def uu (l:List Int) (b:Int) (a:ay b):ay (oh l b)/\b<=oh l b:=by
 refine Bn (P:=λm=>ay m/\b<=m) l (λm x c _=> ?_) _ ⟨by unfold ay;omega,a.2⟩;obtain⟨⟨a1,d⟩,e⟩:=c;obtain⟨f,g⟩:=a;unfold ay
 repeat (split<;>try omega)
def yw {st:List Int} (e:st.length<=100) {a b:bo} (c:bc a) (d:bc b):bc (jQ a b st):=by
 unfold jQ
 cases hc:(bG a b&& decide (st.length<=100))
 ·exact cx
 ·refine⟨?_,?_⟩
  ·simp only[a0z]
   split
   ·exact(ut st _ d.1).1
   ·exact c.1
  ·simp only[a0z]
   split
   ·exact(uu st _ d.2).1
   ·exact c.2
def Np {st:List Int} (c:st.length<=100) {a b:bo} (d:bt a=true) (e:bt b=true):jQ a b st=(if b.1<a.1 then qe st b.1 else a.1,if b.2.1>a.2.1 then oh st b.2.1 else a.2.1,()):=by
 unfold jQ bG;rw[d,e,a0b c];rfl
def Fc {st:List Int} (c:st.length<=100) {a b:bo} (d:bc b) (e:bt a=true) (f:bt b=true):bt (jQ a b st)=true:=by
 rw[Np c e f];have g:=(ut st _ d.1).2;have h:=(uu st _ d.2).2;simp only[bt,a0u]at e f⊢;split<;>split<;>omega
def yx {P Q:bo->Prop} {f:bo->bo->bo} (c:∀x y,Q x->Q y->P (f x y)):(a b:List bo)->(∀x∈a,Q x)->(∀x∈b,Q x)->∀x∈List.zipWith f a b,P x
 |[],b,_,_=>by simp
 |x::a,[],_,_=>by simp
 |x::a,y::b,ha,hb=>by
  intro z hz;simp only[a3q,a1s]at hz;rcases hz with hz|hz
  ·rw[hz];exact c x y (ha x (by simp)) (hb y (by simp))
  ·exact yx c a b (λz hz=>ha z (by simp[hz])) (λz hz=>hb z (by simp[hz])) z hz
def Af {d:ar} {st:List Int} (e:st.length<=100) {a b:aK} (k:aT d a) (l:aT d b):aT d (lU st a b):=by
 unfold lU;by_cases i:a.1=true
 ·by_cases j:b.1=true
  ·rw[cT i,cT j]
   obtain⟨g,m,n⟩:=ba k i;obtain⟨h,o,p⟩:=ba l j;have l1:=g.ints;have l2:=h.ints;have q:=g.arrs;have r:=h.arrs;exact Or.inl ⟨rfl,⟨by simp only[kD,a2n];omega,by simp only[kD,a2n];omega,
    mM (λx y c f=>yw e c f) _ _ g.fi h.fi,mM (λx y c f=>yw e c f) _ _ g.fa h.fa⟩,
    yx (Q:=λx=>bc x/\bt x=true) (λx y c f=>Fc e f.1 c.2 f.2) _ _ (λx c=>⟨g.fi x c,m x c⟩) (λx c=>⟨h.fi x c,o x c⟩),
    yx (Q:=λx=>bc x/\bt x=true) (λx y c f=>Fc e f.1 c.2 f.2) _ _ (λx c=>⟨g.fa x c,n x c⟩) (λx c=>⟨h.fa x c,p x c⟩)⟩
  ·rw[cT i,cF (by simpa using j)];exact k
 ·rw[cF (by simpa using i)];exact l
def P2 (w:Option (List Int)):Prop:=∀st,w=some st->st.length<=100
def K9 {d:ar} {w:Option (List Int)} (f:P2 w) {a b:aK} (c:aT d a) (e:aT d b):aT d (No w a b):=by
 cases w with
 |none=>exact sJ c e
 |some st=>exact Af (f st rfl) c e
def Fd {P:aK->Prop} {f:aK->aK->aK} (c:∀x y,P x->P y->P (f x y)):(a b:List aK)->(∀x∈a,P x)->(∀x∈b,P x)->∀x∈List.zipWith f a b,P x
 |[],b,_,_=>by simp
 |x::a,[],_,_=>by simp
 |x::a,y::b,ha,hb=>by
  intro z hz;simp only[a3q,a1s]at hz;rcases hz with hz|hz
  ·rw[hz];exact c x y (ha x (by simp)) (hb y (by simp))
  ·exact Fd c a b (λz hz=>ha z (by simp[hz])) (λz hz=>hb z (by simp[hz])) z hz
def La {d:ar} {w:Option (List Int)} (g:P2 w) {a b:List aK} (c:jI d a) (f:jI d b):jI d (jS w a b):=⟨by unfold jS;rw[a2n,c.n,f.n,Nat.min_self],Fd (λx y h i=>K9 g h i) _ _ c.e f.e⟩
def OE (a b:List bo):Bool:=(List.zipWith iH a b).all id
def kF (a b:aK):Bool:=cond a.1 (cond b.1 (OE a.2.1 b.2.1&& OE a.2.2.1 b.2.2.1) false) true
def yy (a b:List aK):Bool:=(List.zipWith kF a b).all id
def OF {α β γ:Type} (f:α->β->γ) {a:List α} {b:List β} {i:Nat} (c:i<a.length) (d:i<b.length) (h:i<(List.zipWith f a b).length):(List.zipWith f a b)[i]=f a[i] b[i]:=by simp
def oy {A R α:Type} {b:(A->Option R)->A->Option R} (st:Nat->A) (x y:List α) (q:α->α->Bool) (l:x.length=y.length) {rf r:Option R} (h:∀G i (m:i<x.length) (n:i<y.length),b G (st i)=if q x[i] y[i]=true then G (st (i+1))else rf) (d:∀G,b G (st x.length)=r) {f:Nat} (o:x.length<f):aG b f (st 0)=if(List.zipWith q x y).all id=true then r else rf:=by
 have g:(List.zipWith q x y).length=x.length:=by rw[a2n];omega
 have j:=gl (b:=b) st (List.zipWith q x y) (λz=> !z) (rf:=rf) (r:=r) (λG i k=>by
  have a:i<x.length:=by omega
  have c:i<y.length:=by omega
  rw[h G i a c,OF q a c k]
  cases q x[i] y[i]<;>simp) (λG=>by rw[g];exact d G) (f:=f) (by omega)
 have e:((List.zipWith q x y).any λz=> !z)= !(List.zipWith q x y).all id:=iG (List.zipWith q x y) id;rw[j,e]
 cases (List.zipWith q x y).all id<;>simp
def kG {α β:Type} (c:Bool) (z:β) (a b:α):(if c=true then some ((a,()),z)else some ((b,()),z))=some ((cond c a b,()),z):=by cases c<;>rfl
def Fe {k:Nat} (o:1000<k) {d:ar} (j:aN d=true) {a b:aK} (l:aT d a) (m:aT d b):FN k (a,b,())=some ((kF a b,()),((),(),())):=by
 have p:=bx j l;have q:=bx j m;have n:=lV l m;simp only[FN,kF]
 cases h1:a.1
 ·simp
 ·cases h2:b.1
  ·simp
  ·obtain⟨l1,l2⟩:=n h1 h2
   simp only[a0j,af,a0z];have e:=oy (b:=FN.l3 k) (λi=>((true,b.2.1,b.2.2.1,()),a.2.2.1,(a.2.2.1.length:Int),(i:Int),())) a.2.2.1 b.2.2.1 iH l2 (rf:=some ((false,()),((),(),()))) (r:=some ((true,()),((),(),()))) (λG i g h=>by
    simp only[FN.l3];rw[a0b (show(i:Int)<(a.2.2.1.length:Int) by omega),a0b (show(0:Int)<=(i:Int) by omega)];simp only[ah,a0g,a0a g,a0a h,aa,qf];rw[au (i:=i) (by omega)]
    cases iH a.2.2.1[i] b.2.2.1[i]<;>simp) (λG=>by
    simp only[FN.l3];rw[a0i (show¬(a.2.2.1.length:Int)<(a.2.2.1.length:Int) by omega),af]) (f:=k) (by omega)
   have c:=oy (b:=FN.l1 k) (λi=>((true,a.2.1,a.2.2.1,()),(true,b.2.1,b.2.2.1,()),a.2.1,(a.2.1.length:Int),(i:Int),())) a.2.1 b.2.1 iH l1 (rf:=some ((false,()),((),(),()))) (r:=if(List.zipWith iH a.2.2.1 b.2.2.1).all id=true then some ((true,()),((),(),()))else some ((false,()),((),(),()))) (λG i g h=>by
    simp only[FN.l1];rw[a0b (show(i:Int)<(a.2.1.length:Int) by omega),a0b (show(0:Int)<=(i:Int) by omega)];simp only[ah,a0g,a0a g,a0a h,aa,qf];rw[au (i:=i) (by omega)]
    cases iH a.2.1[i] b.2.1[i]<;>simp) (λG=>by
    simp only[FN.l1];rw[a0i (show¬(a.2.1.length:Int)<(a.2.1.length:Int) by omega),af];exact e) (f:=k) (by omega)
   refine Eq.trans c ?_
   unfold OE
   cases (List.zipWith iH a.2.1 b.2.1).all id<;>cases (List.zipWith iH a.2.2.1 b.2.2.1).all id<;>rfl
def Ff {k:Nat} (o:1000<k) {d:ar} (g:aN d=true) {a b:aK} (h:aT d a) (j:aT d b):xH k (a,b,())=some ((kF a b,()),((),(),())):=by
 have p:=bx g h;have q:=bx g j;have m:=lV h j;simp only[xH,kF]
 cases h1:a.1
 ·simp
 ·cases h2:b.1
  ·simp
  ·obtain⟨l1,l2⟩:=m h1 h2
   simp only[a0j,af,a0z,a0d,ja k (show a.2.1.length+a.2.2.1.length<=1000 by omega),ja k (show b.2.1.length+b.2.2.1.length<=1000 by omega),aa];have e:(a.2.1++a.2.2.1).length=(b.2.1++b.2.2.1).length:=by simp;omega
   have l:(a.2.1++a.2.2.1).length<=1000:=by simp;omega
   have c:=oy (b:=xH.l0 k) (λi=>(a.2.1++a.2.2.1,b.2.1++b.2.2.1,(i:Int),())) (a.2.1++a.2.2.1) (b.2.1++b.2.2.1) iH e (rf:=some ((false,()),((),(),()))) (r:=some ((true,()),((),(),()))) (λG i l n=>by
    simp only[xH.l0];rw[a0b (show(i:Int)<((a.2.1++a.2.2.1).length:Int) by omega),a0b (show 0<=(i:Int)/\(i:Int)<((a.2.1++a.2.2.1).length:Int) by omega),a0b (show 0<=(i:Int)/\(i:Int)<((b.2.1++b.2.2.1).length:Int) by omega)];simp only[ah,a0g,a0a l,a0a n,aa,xW];rw[au (i:=i) (by omega)]
    cases iH (a.2.1++a.2.2.1)[i] (b.2.1++b.2.2.1)[i]<;>simp) (λG=>by
    simp only[xH.l0];rw[a0i (show¬((a.2.1++a.2.2.1).length:Int)<((a.2.1++a.2.2.1).length:Int) by omega),af]) (f:=k) (by omega)
   refine Eq.trans c ?_
   rw[kG];unfold OE;rw[a6e l1,a5s]
   cases (List.zipWith iH a.2.1 b.2.1).all id<;>cases (List.zipWith iH a.2.2.1 b.2.2.1).all id<;>rfl
def HJ {k:Nat} (o:1000<k) {d:ar} (g:aN d=true) {a b:List aK} (c:jI d a) (j:jI d b):zW k (a,b,())=some ((yy a b,()),((),(),())):=by
 have l1:=fV g c;have p:a.length=b.length:=by rw[c.n,j.n]
 have h:=oy (b:=zW.l0 k) (λi=>(b,a,(a.length:Int),(i:Int),())) a b kF p (rf:=some ((false,()),((),(),()))) (r:=some ((true,()),((),(),()))) (λG i l m=>by
  have q:=Fe o g (c.e _ (a0h l)) (j.e _ (a0h m));simp only[zW.l0];rw[a0b (show(i:Int)<(a.length:Int) by omega),a0b (show(0:Int)<=(i:Int) by omega)];simp only[ah,a0g,a0a l,a0a m,aa,q];rw[au (i:=i) (by omega)]
  cases kF a[i] b[i]<;>simp) (λG=>by
  simp only[zW.l0];rw[a0i (show¬(a.length:Int)<(a.length:Int) by omega),af]) (f:=k) (by omega)
 rw[kG]at h;refine Eq.trans h ?_
 unfold yy
 cases (List.zipWith kF a b).all id<;>rfl
def HK {k:Nat} (o:1000<k) {d:ar} (g:aN d=true) {a b:List aK} (c:jI d a) (j:jI d b):zU k (a,b,())=some ((yy a b,()),((),(),())):=by
 have l1:=fV g c;have p:a.length=b.length:=by rw[c.n,j.n]
 have h:=oy (b:=zU.l0 k) (λi=>(a,b,(i:Int),())) a b kF p (rf:=some ((false,()),((),(),()))) (r:=some ((true,()),((),(),()))) (λG i l m=>by
  have q:=Ff o g (c.e _ (a0h l)) (j.e _ (a0h m));simp only[zU.l0];rw[a0b (show(i:Int)<(a.length:Int) by omega),a0b (show(0:Int)<=(i:Int) by omega)];simp only[ah,a0g,a0a l,a0a m,aa,q];rw[au (i:=i) (by omega)]
  cases kF a[i] b[i]<;>simp) (λG=>by
  simp only[zU.l0];rw[a0i (show¬(a.length:Int)<(a.length:Int) by omega),af]) (f:=k) (by omega)
 rw[kG]at h;refine Eq.trans h ?_
 unfold yy
 cases (List.zipWith kF a b).all id<;>rfl
abbrev az:=List bM×List aK×Unit
def gF (d:ar) (p:az):Bool:=bf p.1&& (fG d p.2.1&& fU p.2.1)
def uv (a:Option (List bM)) (t:List bM):Bool:=
 match a with
 |none=>true
 |some s=> !decide (cy s t>=0)
def ng:Option (List bM)->List az->Bool
 |_,[]=>true
 |prev,p::r=>uv prev p.1&& ng (some p.1) r
def Bo (d:ar):Option (List bM)->List az->Bool
 |_,[]=>true
 |prev,p::r=>(bf p.1&& (uv prev p.1&& (fG d p.2.1&& fU p.2.1)))&& Bo d (some p.1) r
def dm (d:ar) (l:List az):Bool:=decide (l.length<=100)&& (l.all (gF d)&& ng none l)
def Fg (d:ar):∀(l:List az) (a:Option (List bM)),Bo d a l=(l.all (gF d)&& ng a l)
 |[],_=>rfl
 |p::r,a=>by
  simp only[Bo,ng,a5t,Fg d r,gF]
  cases bf p.1<;>cases uv a p.1<;>cases fG d p.2.1<;>cases fU p.2.1<;>cases r.all (λp=>bf p.1&& (fG d p.2.1&& fU p.2.1))<;>simp[gF]
structure gp (l:List az):Prop where
 n:l.length<=1048576
 t:∀p∈l,p.1.length<=1048576
 m:∀p∈l,p.2.1.length<=1048576
 e:∀p∈l,∀e∈p.2.1,fD e
def yz (k:Nat) (j:4194304<k) (d:ar) (y:fC d) (q:aN d=true) (l:List az) (o:gp l):∀(n i f:Nat) (a:Option (List bM)),i+n=l.length->n<f->(i=0->a=none)->(∀(h:0<i) (z:i-1<l.length),a=some l[i-1].1/\bf l[i-1].1=true)->aG (uR.l0 k) f (l,(d.1,d.2.1,d.2.2.1,()),(i:Int),())=some ((Bo d a (l.drop i),()),((),(),())):=by
 have H:=o.n;intro n
 induction n with
 |zero=>
  intro i f a A B w x;obtain⟨f,rfl⟩:∃g,f=g+1:=⟨f-1,by omega⟩;have r:¬((i:Int)<(l.length:Int)):=by omega
  rw[aF,a2a (by omega)];simp only[uR.l0,ak (p:=(i:Int)<(l.length:Int)),a0c r,Bo]
 |succ n ih=>
  intro i f a A B w x;obtain⟨f,rfl⟩:∃g,f=g+1:=⟨f-1,by omega⟩;have b:i<l.length:=by omega
  have r:((i:Int)<(l.length:Int)):=by omega
  have C:(0:Int)<=(i:Int):=by omega
  have s:=a0h b;have D:r9 k ((d.1,d.2.1,d.2.2.1,()),l[i].2.1,())=some ((fG d l[i].2.1,()),((),(),())):=yu k j d y q l[i].2.1 (o.m _ s) (o.e _ s);rw[aF,a1a b];simp only[uR.l0,ak (p:=(i:Int)<(l.length:Int)),ak (p:=(0:Int)<=(i:Int)),a0e r,a0e C,a0g,a0a b,aa,ox k j,D,K8 k j l[i].2.1 (o.m _ s),Bo]
  cases htok:bf l[i].1 with
  |false=>simp
  |true=>
   have next:=ih (i+1) f (some l[i].1) (by omega) (by omega) (λh=>by omega) (λh z=>⟨by simp,by simpa using htok⟩);simp only[a0j,af,a1i];by_cases E:i=0
   ·have c:¬((i:Int)>0):=by omega
    have t:=w E;rw[au (by omega)];simp only[ak (p:=(i:Int)>0),a0c c,t,uv,a1i]
    cases fG d l[i].2.1<;>cases fU l[i].2.1<;>simp[next]
    all_goals exact next
   ·have c:((i:Int)>0):=by omega
    obtain⟨t,u⟩:=x (by omega) (by omega);have F:wrap .i64 ((i:Int)-1)=((i-1:Nat):Int):=by rw[am (by omega) (by omega)];omega
    have G:(0:Int)<=((i-1:Nat):Int):=by omega
    have v:i-1<l.length:=by omega
    rw[au (by omega)];simp only[ak (p:=(i:Int)>0),a0e c,F,ak (p:=(0:Int)<=((i-1:Nat):Int)),a0e G,a0g,a0a v,aa,qj k j l[i-1].1 l[i].1 u htok,t,uv]
    cases decide (cy l[i-1].1 l[i].1>=0)<;>cases fG d l[i].2.1<;>cases fU l[i].2.1<;>simp[next]
    all_goals exact next
def yA (k:Nat) (c:4194304<k) (d:ar) (e:fC d) (a:aN d=true) (l:List az) (f:gp l):uR k (d,l,())=some ((dm d l,()),((),(),())):=by
 have i:=f.n;unfold uR dm;simp only[gW k c d e,a,aa,a0j,af,a0d,ak];by_cases g:(l.length:Int)>100
 ·have:decide (l.length<=100)=false:=by simp;omega
  rw[a0e g,this];rfl
 ·have b:l.length<=100:=by omega
  rw[a0c g,a0b b,a1i,<-Fg];exact yz k c d e a l f l.length 0 k none (by omega) (by omega) (λ_=>rfl) (λh=>by omega)
def OG (k:Nat) (j:4194304<k) (t:List aK) (l:t.length<=1048576):JG k (t,(()),())=some ((fU t,()),((),(()),())):=by
 obtain⟨n,d,a⟩:=eu (b:=xk.l0 k) (λi=>(t,(()),(t.length:Int),(i:Int),())) t (λe=>e.1) (o:=((),(()),())) (λG i g=>by
  have a:((i:Int)<(t.length:Int)):=by omega
  have h:(0:Int)<=(i:Int):=by omega
  simp only[xk.l0,MN,ak,a0e a,a0e h,a0g,a0a g,aa];rw[au (by omega)]
  cases t[i].1<;>simp) (λG=>by
  have a:¬((t.length:Int)<(t.length:Int)):=by omega
  simp only[xk.l0,ak,a0c a]) (f:=k) (by omega)
 unfold JG xk;have c:aG (xk.l0 k) k (t,(()),(t.length:Int),0,())=some ((n,()),((),(()),())):=d;simp only[c,aa,a];rfl
def Lc (k:Nat) (a:4194304<k) (d:ar) (c:d.2.1.length<=3) (p:az) (b:p.2.1.length<=1048576) (f:∀e∈p.2.1,fD e):JH k (d,p,())=some ((gF d p,()),((),(),())):=by
 unfold JH gF;simp only[ou k a,HI k a d c p.2.1 b f,OG k a p.2.1 b,aa]
 cases bf p.1<;>cases fG d p.2.1<;>simp
def pF (k:Nat) (q:4194304<k) (d:ar) (r:d.2.1.length<=3) (l:List az) (c:gp l):Ek k (l,(d,()),())=some ((l.all (gF d),()),((),((),()),())):=by
 have u:=c.n;obtain⟨n,s,a⟩:=eu (b:=xl.l0 k) (λi=>(l,(((d,()),()),()),(l.length:Int),(i:Int),())) l (λp=> !gF d p) (o:=((),(((d,()),()),()),())) (λG i h=>by
  have a:((i:Int)<(l.length:Int)):=by omega
  have t:(0:Int)<=(i:Int):=by omega
  have j:=a0h h;simp only[xl.l0,MO,Lc k q d r l[i] (c.m _ j) (c.e _ j),ak,a0e a,a0e t,a0g,a0a h,aa];rw[au (by omega)]
  cases gF d l[i]<;>simp) (λG=>by
  have a:¬((l.length:Int)<(l.length:Int)):=by omega
  simp only[xl.l0,ak,a0c a]) (f:=k) (by omega)
 unfold Ek MP xl;have g:aG (xl.l0 k) k (l,(((d,()),()),()),(l.length:Int),0,())=some ((n,()),((),(((d,()),()),()),())):=s;simp only[g,aa,a,iG,a7h]
def yB (k:Nat) (m:4194304<k) (d:ar) (r:d.2.1.length<=3) (l:List az) (c:gp l):∀(n i f:Nat) (o:1<=i),(i<=l.length->∀(b:i-1<l.length),i+n=l.length->n<f->aG (JI.l0 k) f (l,(d.1,d.2.1,d.2.2.1,()),(i:Int),())=some ((ng (some l[i-1].1) (l.drop i)&& (decide (l.length<=100)&& l.all (gF d)),()),((),(),()))):=by
 have y:=c.n;intro n
 induction n with
 |zero=>
  intro i f o e b s h;obtain⟨f,rfl⟩:∃g,f=g+1:=⟨f-1,by omega⟩;have j:¬((i:Int)<(l.length:Int)):=by omega
  have u:Ek k (l,((d.1,d.2.1,d.2.2.1,()),()),())=some ((l.all (gF d),()),((),((),()),())):=pF k m d r l c;rw[aF,a2a (by omega)];simp only[JI.l0,ak,a0c j,ng,a1i,u,aa];by_cases q:l.length<=100
  ·rw[a0e (by omega),a0b q,a1i]
  ·rw[a0c (by omega),a0i q];rfl
 |succ n ih=>
  intro i f o e b s h;obtain⟨f,rfl⟩:∃g,f=g+1:=⟨f-1,by omega⟩;have a:i<l.length:=by omega
  have j:((i:Int)<(l.length:Int)):=by omega
  have v:(0:Int)<=(i:Int):=by omega
  have w:wrap .i64 ((i:Int)-1)=((i-1:Nat):Int):=by rw[am (by omega) (by omega)];omega
  have x:(0:Int)<=((i-1:Nat):Int):=by omega
  rw[aF,a1a a];simp only[JI.l0,ak (p:=(i:Int)<(l.length:Int)),ak (p:=(0:Int)<=(i:Int)),a0e j,a0e v,w,ak (p:=(0:Int)<=((i-1:Nat):Int)),a0e x,a0g,a0a a,a0a b,aa,kC k m l[i-1].1 l[i].1 (c.t _ (a0h b)),ng,uv];rw[au (by omega)]
  cases decide (cy l[i-1].1 l[i].1>=0)with
  |true=>simp
  |false=>
   have:=ih (i+1) f (by omega) (by omega) (by omega) (by omega) (by omega);simp only[Nat.add_sub_cancel]at this;simpa using this
def Fh (k:Nat) (b:4194304<k) (d:ar) (c:d.2.1.length<=3) (l:List az) (a:gp l):JI k (d,l,())=some ((dm d l,()),((),(),())):=by
 have f:=a.n;unfold JI dm
 cases l with
 |nil=>
  obtain⟨j,rfl⟩:∃j,k=j+1:=⟨k-1,by omega⟩;have g:Ek (j+1) (([]:List az),((d.1,d.2.1,d.2.2.1,()),()),())=some ((([]:List az).all (gF d),()),((),((),()),())):=pF (j+1) b d c [] a;simp only;rw[aF];simp only[JI.l0,ak,a0q];rw[a0c (by decide),a0e (by decide),g];simp[ng]
 |cons p r=>
  have h:=yB k b d c (p::r) a r.length 1 k (a1l _) (by simp) (by simp) (by simp;omega) (by simp at f;omega);refine Eq.trans h ?_
  simp only[ng,uv,a1i];have e:(p::r)[1-1].1=p.1:=rfl;have i:(p::r).drop 1=r:=rfl;rw[e,i]
  cases ng (some p.1) r<;>simp
def mP (x y:bM):(jR x y= -1/\(x.1<y.1\/(x.1=y.1/\x.2.1<y.2.1)))\/(jR x y=1/\(y.1<x.1\/(x.1=y.1/\y.2.1<x.2.1)))\/(jR x y=0/\x.1=y.1/\x.2.1=y.2.1):=by
 unfold jR;by_cases a:x.1<y.1
 ·rw[a0e a];exact .inl ⟨rfl,.inl a⟩
 ·by_cases b:x.1>y.1
  ·rw[a0c a,a0e b];exact .inr (.inl ⟨rfl,.inl b⟩)
  ·by_cases c:x.2.1<y.2.1
   ·rw[a0c a,a0c b,a0e c];exact .inl ⟨rfl,.inr ⟨by omega,c⟩⟩
   ·by_cases d:x.2.1>y.2.1
    ·rw[a0c a,a0c b,a0c c,a0e d];exact .inr (.inl ⟨rfl,.inr ⟨by omega,d⟩⟩)
    ·rw[a0c a,a0c b,a0c c,a0c d];exact .inr (.inr ⟨rfl,by omega,by omega⟩)
def IF:∀(a b c:List bM),a.length=b.length->b.length=c.length->nq a b<0->nq b c<=0->nq a c<0
 |[],[],_,_,_,h,_=>by simp[nq]at h
 |x::a,y::b,z::c,h1,h2,h,h'=>by
  have ih:=IF a b c (by simpa using h1) (by simpa using h2);simp only[nq]at h h'⊢;rcases mP x y with⟨d,f1⟩|⟨d,f1⟩|⟨d,f1⟩<;>rcases mP y z with⟨e,f2⟩|⟨e,f2⟩|⟨e,f2⟩<;>rcases mP x z with⟨f,g⟩|⟨f,g⟩|⟨f,g⟩<;>simp only[d,e,f]at h h'⊢<;>simp at h h'⊢<;>first|omega|exact ih h h'
def lm {a b c:List bM} (h:cy a b<0) (d:cy b c<=0):cy a c<0:=by
 unfold cy at h d⊢;by_cases f:a.length<b.length
 ·by_cases e:c.length<b.length
  ·rw[a0c (by omega),a0e (by omega)]at d;omega
  ·rw[a0e (by omega)];decide
 ·by_cases e:a.length>b.length
  ·rw[a0c f,a0e e]at h;omega
  ·rw[a0c f,a0c e]at h
   by_cases g:b.length<c.length
   ·rw[a0e (by omega)];decide
   ·by_cases i:b.length>c.length
    ·rw[a0c g,a0e i]at d;omega
    ·rw[a0c g,a0c i]at d
     rw[a0c (by omega),a0c (by omega)];exact IF a b c (by omega) (by omega) h d
def Fi:∀(l:List az) (a:Option (List bM)),ng a l=true->(∀s,a=some s->∀p∈l,cy s p.1<0)/\l.Pairwise λp q=>cy p.1 q.1<0
 |[],_,_=>⟨λ_ _ p d=>by simp at d,.nil⟩
 |p::r,a,h=>by
  simp only[ng,a0f]at h;obtain⟨c,e⟩:=Fi r (some p.1) h.2;refine⟨λs f q hq=> ?_,a4x.2 ⟨λq hq=>c p.1 rfl q hq,e⟩⟩;subst f;have b:cy s p.1<0:=by
   have:=h.1;simp only[uv,a2p,a7t]at this;omega
  rcases a1s.1 hq with rfl|hq
  ·exact b
  ·exact lm b (by have:=c p.1 rfl q hq;omega)
def Fj (k:Nat) (E:4194304<k) (l:List az) (v:gp l) (H:l.Pairwise λp q=>cy p.1 q.1<0) (t:List bM):∀(n i j f:Nat),j-i<=n->n<f->i<=j->j<=l.length->(∀x (d:x<l.length),x<i->cy l[x].1 t<0)->(∀x (d:x<l.length),j<=x->cy l[x].1 t>=0)->∃(m:Nat) (b:Bool),aG (FJ.l0 k) f (l,t,(()),(l.length:Int),(i:Int),(j:Int),())=some (((m:Int),b,()),((),(),(()),()))/\(b=true->∃h:m<l.length,cy l[m].1 t=0)/\(b=false->∀x (d:x<l.length),cy l[x].1 t≠0):=by
 have N:=v.n;have o:=a4z.1 H;intro n
 induction n with
 |zero=>
  intro i j f w I F y r u;obtain⟨f,rfl⟩:∃g,f=g+1:=⟨f-1,by omega⟩;obtain rfl:i=j:=by omega
  have z:¬((i:Int)<(i:Int)):=by omega
  have A:(0:Int)<=(i:Int):=by omega
  rw[aF];simp only[FJ.l0,Cx,ak,a0c z,a0e A,a0g];by_cases a:i<l.length
  ·have e:(i:Int)<(l.length:Int):=by omega
   have B:=kC k E l[i].1 t (v.t _ (a0h a));simp only[a0e e,a0a a,aa,B,a0d];refine⟨i,_,rfl,λh=>⟨a,by simpa using h⟩,λh x d=> ?_⟩;by_cases C:x<i
   ·have:=r x d C;omega
   ·by_cases s:x=i
    ·subst s;simpa using h
    ·have O:=u i a (a1l _)
     have J:=o i x a d (by omega);intro K;have:=lm J (Int.le_of_eq K);omega
  ·have e:¬(i:Int)<(l.length:Int):=by omega
   simp only[a0c e,a0d];exact⟨i,false,rfl,λh=>(by cases h),λ_ x d=>by have:=r x d (by omega);omega⟩
 |succ n ih=>
  intro i j f w I F y r u;by_cases G:i<j
  ·obtain⟨f,rfl⟩:∃g,f=g+1:=⟨f-1,by omega⟩
   obtain⟨h,P⟩:∃h,h=(i+j)/2:=⟨_,rfl⟩;have a:h<l.length:=by omega
   have z:((i:Int)<(j:Int)):=by omega
   have c1:(0:Int)<=1:=by decide
   have A:(0:Int)<=(h:Int):=by omega
   have L:((2:Int)^(min (1:Int).toNat 64))=2:=by decide
   have M:wrap .i64 ((wrap .u64 (wrap .i64 ((i:Int)+(j:Int)))).fdiv (2^(min (1:Int).toNat 64)))=(h:Int):=by
    rw[L,am (n:=(i:Int)+(j:Int)) (by omega) (by omega),iF (by omega) (by omega),a6z _ (by decide),am (by omega) (by omega)];omega
   have B:=kC k E l[h].1 t (v.t _ (a0h a));rw[aF];simp only[FJ.l0,Cx,ak,a0e z,a0e c1,M,a0e A,a0g,a0a a,aa,B];by_cases c:cy l[h].1 t<0
   ·rw[a0e c,au (by omega)]
    refine ih (h+1) j f (by omega) (by omega) (by omega) y (λx d D=> ?_) u;by_cases s:x=h
    ·subst s;exact c
    ·exact lm (o x h d a (by omega)) (by omega)
   ·rw[a0c c]
    refine ih i h f (by omega) (by omega) (by omega) (by omega) r (λx d D=> ?_);by_cases s:x=h
    ·subst s;omega
    ·by_cases Q:cy l[x].1 t<0
     ·exact absurd (lm (o h x a d (by omega)) (by omega)) c
     ·omega
  ·exact ih i j f (by omega) (by omega) F y r u
abbrev aV:=Int×Int×List ca×List ca×Int×Int×Unit
def ek (n:Int):Bool:=n==5||(n==6||(n==9||n==10))
def eZ (n:Int):Bool:=n==9||n==10
def fu (st:List Int) (a:Int):Option (List Int):=
 if ek a=true then some (a::st)else
 if a=7 then(match st with|t::r=>if t=5\/t=6 then some (7::r)else none|[]=>none)else
 if a=8 then(match st with|_::r=>some r|[]=>none)else some st
def d4:List Int->List Int->Option (List Int)
 |st,[]=>some st
 |st,n::r=>(fu st n).bind λs=>d4 s r
def kH:Option (List Int)->Bool
 |some []=>true
 |_=>false
def lW (l:List aV):Bool:=kH (d4 [] (l.map (·.1)))
def PT:aV:=(0,0,[],[],0,0,())
def c9 (l:List aV) (x:Int):Int:=(l.getD x.toNat PT).1
def qk (k:Nat) (n:Int):Cl k (n,())=some ((eZ n,()),((),())):=by
 unfold Cl eZ;simp only
 cases (n==9)<;>simp
def mQ (k:Nat) (n:Int):GN k (n,())=some ((ek n,()),((),())):=by
 unfold GN ek;simp only[qk,aa,eZ]
 cases (n==5)<;>cases (n==6)<;>simp
def lX:fu [] 7=none:=by decide
def lY:fu [] 8=none:=by decide
def oz {t:Int} {r:List Int} (h:t=5\/t=6):fu (t::r) 7=some (7::r):=by
 simp[fu,ek,h]
def oA {t:Int} {r:List Int} (h:¬(t=5\/t=6)):fu (t::r) 7=none:=by
 unfold fu;rw[a0c (by decide),a0e rfl];simp only[a0c h]
def oB {t:Int} {r:List Int}:fu (t::r) 8=some r:=by simp[fu,ek]
def fH (l:List aV) {x:Int} (a:0<=x) (h:x.toNat<l.length):c9 l x=l[x.toNat].1:=by
 simp[c9,List.getD,a0a h]
def u7 (k:Nat) (l:List aV) (hl:l.length<=30):∀(n i f:Nat) (a op:List Int),i+n=l.length->n<f->a.length=i->op.length<=i->(∀x∈op,0<=x/\x<(i:Int))->∃o m,aG (vn.l0 k) f (l,a,op,(i:Int),())=some ((o,m,()),((),()))/\decide (m>(l.length:Int))=kH (d4 ((op.map (c9 l)).reverse) ((l.drop i).map (·.1))):=by
 intro n
 induction n with
 |zero=>
  intro i f a op U V W C B;obtain⟨f,rfl⟩:∃g,f=g+1:=⟨f-1,by omega⟩;have D:¬((i:Int)<(l.length:Int)):=by omega
  rw[aF,a2a (by omega)];simp only[vn.l0,ak,a0c D,a4a,d4];by_cases b:(op.length:Int)>0
  ·refine⟨[],(l.length:Int),by rw[a0e b],?_⟩
   cases op with
   |nil=>simp at b
   |cons x r=>
    have:¬((l.length:Int)>(l.length:Int)):=by omega
    rw[a0i this]
    cases hr:((x::r).map (c9 l)).reverse with
    |nil=>simp at hr
    |cons y z=>rfl
  ·have:op=[]:=by cases op with|nil=>rfl|cons x r=>simp at b
   subst this;refine⟨a,wrap .i64 ((l.length:Int)+1),by rw[a0c b],?_⟩;rw[am (by omega) (by omega)];have:(l.length:Int)+1>(l.length:Int):=by omega
   rw[a0b this];rfl
 |succ n ih=>
  intro i f a op U V W C B;obtain⟨f,rfl⟩:∃g,f=g+1:=⟨f-1,by omega⟩;have s:i<l.length:=by omega
  have D:((i:Int)<(l.length:Int)):=by omega
  have E:(0:Int)<=(i:Int):=by omega
  have N:(a.length+([((i+1:Nat):Int)]:List Int).length)*8<=ai:=by simp[ai];omega
  have O:(op.length+([(i:Int)]:List Int).length)*8<=ai:=by simp[ai];omega
  have P:=au (i:=i) (by omega);have Q:c9 l (i:Int)=l[i].1:=by rw[fH l E (by simpa using s)];simp
  rw[aF,a1a s,a2i];have e:ek l[i].1=true->∃o m,aG (vn.l0 k) f (l,a++[((i+1:Nat):Int)],op++[(i:Int)],((i+1:Nat):Int),())=some ((o,m,()),((),()))/\decide (m>(l.length:Int))=kH (d4 ((op.map (c9 l)).reverse) (l[i].1::(l.drop (i+1)).map (·.1))):=by
   intro b;obtain⟨o,m,u,v⟩:=ih (i+1) f (a++[((i+1:Nat):Int)]) (op++[(i:Int)]) (by omega) (by omega) (by simp;omega) (by simp;omega) (λx h=>by
    rcases a0l.1 h with h|h
    ·have:=B x h;omega
    ·simp at h;omega)
   refine⟨o,m,u,?_⟩;rw[v,a3d,a5j];simp only[a2i,a4a,a6o,a6s,a2m,a5k,Q,d4,fu,a0e b,a0d]
  have j:ek l[i].1=false->l[i].1≠7->l[i].1≠8->∃o m,aG (vn.l0 k) f (l,a++[((i+1:Nat):Int)],op,((i+1:Nat):Int),())=some ((o,m,()),((),()))/\decide (m>(l.length:Int))=kH (d4 ((op.map (c9 l)).reverse) (l[i].1::(l.drop (i+1)).map (·.1))):=by
   intro b c q;obtain⟨o,m,u,v⟩:=ih (i+1) f (a++[((i+1:Nat):Int)]) op (by omega) (by omega) (by simp;omega) (by omega) (λx h=>by have:=B x h;omega);refine⟨o,m,u,?_⟩;rw[v];simp only[d4,fu,b,a0r,a1y,a0c c,a0c q,a0d]
  rcases a4h op with hn|⟨ini,t,hc⟩
  ·subst hn
   have F:¬((([]:List Int).length:Int)>0):=by simp
   simp only[vn.l0,ak (p:=(i:Int)<(l.length:Int)),a0e D,ak (p:=(0:Int)<=(i:Int)),a0e E,P,ak (p:=(a.length+([((i+1:Nat):Int)]:List Int).length)*8<=ai),a0e N,ak (p:=(([]:List Int).length:Int)>0),a0c F,a0g,a0a s,aa,mQ]
   cases b:ek l[i].1 with
   |true=>
    simp only[ah,ak,a0e O];exact e b
   |false=>
    simp only[af,cg];by_cases c:l[i].1=7
    ·refine⟨[],(i:Int),by simp[a0e c],?_⟩
     have:¬((i:Int)>(l.length:Int)):=by omega
     rw[a0i this];rw[c];simp[d4,lX,kH]
    ·by_cases q:l[i].1=8
     ·refine⟨[],(i:Int),by simp[a0c c,a0e q],?_⟩
      have:¬((i:Int)>(l.length:Int)):=by omega
      rw[a0i this];rw[q];simp[d4,lY,kH]
     ·simp only[a0c c,a0c q]
      exact j b c q
  ·rw[a3u]at hc
   subst hc;have G:=B t (by simp);have w:t.toNat<l.length:=by omega
   have F:(((ini++[t]).length:Int)>0):=by simp only[a0m,a0o,a0q];omega
   have X:(((ini++[t]).length:Int)-1)=(ini.length:Int):=by simp
   have H:wrap .i64 (ini.length:Int)=(ini.length:Int):=am (by omega) (by simp at C;omega);have c1:0<=(ini.length:Int)/\(ini.length:Int)<((ini++[t]).length:Int):=by simp only[a0m,a0o,a0q];omega
   have c2:0<=(ini.length:Int)/\(ini.length:Int)<=((ini++[t]).length:Int):=by simp only[a0m,a0o,a0q];omega
   have Y:(ini++[t])[ini.length]?=some t:=by simp
   have Z:=fH l G.1 w;have R:0<=t/\t<((a++[((i+1:Nat):Int)]).length:Int):=by simp;omega
   have S:¬t<0:=by omega
   obtain⟨y8,T⟩:∃y,(a++[((i+1:Nat):Int)])[t.toNat]?=some y:=⟨_,a0a (by simp;omega)⟩;have es:aQ (ini++[t]) ((0:Int).toNat) (ini.length-(0:Int).toNat)=ini:=by simp[aQ]
   have I:(((ini++[t]).map (c9 l)).reverse)=l[t.toNat].1::(ini.map (c9 l)).reverse:=by simp[Z]
   simp only[vn.l0,ak (p:=(i:Int)<(l.length:Int)),a0e D,ak (p:=(0:Int)<=(i:Int)),a0e E,P,ak (p:=(a.length+([((i+1:Nat):Int)]:List Int).length)*8<=ai),a0e N,ak (p:=((ini++[t]).length:Int)>0),a0e F,X,H,ak (p:=0<=(ini.length:Int)/\(ini.length:Int)<((ini++[t]).length:Int)),a0e c1,a0g,Y,a0a s,aa,mQ]
   cases b:ek l[i].1 with
   |true=>
    simp only[ah,ak,a0e O];exact e b
   |false=>
    simp only[af,cg];by_cases c:l[i].1=7
    ·simp only[a0e c,ak,a0c S,a0e G.1,a0a w,aa]
     by_cases A:l[t.toNat].1=5\/l[t.toNat].1=6
     ·have J:(br k (l[t.toNat].1 !=5) (some (l[t.toNat].1 !=6,())) (some (false,())):Option (Bool×Unit))=some (false,()):=by
       rcases A with h|h<;>simp[h]
      simp only[J,a0d,af,a0e R,T,aa,a0e c1];obtain⟨o,m,u,v⟩:=ih (i+1) f ((a++[((i+1:Nat):Int)]).set t.toNat ((i+1:Nat):Int)) (ini++[(i:Int)]) (by omega) (by omega) (by simp;omega) (by simp at C⊢;omega) (λx h=>by
       rcases a0l.1 h with h|h
       ·have:=B x (by simp[h]);omega
       ·simp at h;omega)
      have K:(ini++[t]).set ini.length (i:Int)=ini++[(i:Int)]:=by simp
      refine⟨o,m,by rw[K];exact u,?_⟩;rw[v,I];simp only[a3d,a2i,a4a,a5j,a6o,a6s,a2m,a5k,Q,c,d4,oz A,a0d]
     ·have J:(br k (l[t.toNat].1 !=5) (some (l[t.toNat].1 !=6,())) (some (false,())):Option (Bool×Unit))=some (true,()):=by
       have a5:(l[t.toNat].1 !=5)=true:=by simp;omega
       have a6:(l[t.toNat].1 !=6)=true:=by simp;omega
       rw[a5,a6,ah]
      refine⟨[],(i:Int),by simp only[J,a0d,ah],?_⟩;have:¬((i:Int)>(l.length:Int)):=by omega
      rw[a0i this,I];simp only[c,d4,oA A,a5m,kH]
    ·by_cases q:l[i].1=8
     ·have done:∀d:List Int,d.length=i+1->∃o m,aG (vn.l0 k) f (l,d,ini,((i+1:Nat):Int),())=some ((o,m,()),((),()))/\decide (m>(l.length:Int))=kH (d4 (((ini++[t]).map (c9 l)).reverse) (l[i].1::(l.drop (i+1)).map (·.1))):=by
       intro d L;obtain⟨o,m,u,v⟩:=ih (i+1) f d ini (by omega) (by omega) L (by simp at C;omega) (λx h=>by have:=B x (by simp[h]);omega);refine⟨o,m,u,?_⟩;rw[v,I];simp only[q,d4,oB,a0d]
      have c5:0<=t/\t<(((a++[((i+1:Nat):Int)]).set t.toNat (i:Int)).length:Int):=by simp;omega
      obtain⟨z,ez⟩:∃y,((a++[((i+1:Nat):Int)]).set t.toNat (i:Int))[t.toNat]?=some y:=⟨_,a0a (by simp;omega)⟩;have c6:0<=(i:Int)/\(i:Int)<((((a++[((i+1:Nat):Int)]).set t.toNat (i:Int)).set t.toNat ((i+1:Nat):Int)).length:Int):=by simp;omega
      obtain⟨z2,M⟩:∃y,(((a++[((i+1:Nat):Int)]).set t.toNat (i:Int)).set t.toNat ((i+1:Nat):Int))[i]?=some y:=⟨_,a0a (by simp;omega)⟩;simp only[a0c c,a0e q,ak,a0c S,a0e c2,a0e R,T,aa,a0e G.1,a0a w,qk,es,a0e c5,ez,a0e c6,M]
      cases eZ l[t.toNat].1 with
      |true=>rw[ah];exact done _ (by simp;omega)
      |false=>rw[af];exact done _ (by simp;omega)
     ·simp only[a0c c,a0c q]
      exact j b c q
abbrev C9:=Int×Int×Unit
def bU (l:List aV) (x:C9):Int:=if x.2.1>=0 then 7 else c9 l x.1
def ln (k:Nat) (n:aV):GU k (n,())=some ((n.1==5||n.1==6,()),((),())):=by
 unfold GU;simp only
 cases (n.1==5)<;>simp
def o8 (k:Nat) (n:aV):Eh k (n,())=some ((eZ n.1,()),((),())):=by
 unfold Eh eZ;simp only
 cases (n.1==9)<;>simp
def uw (n:Int):ek n=((n==5||n==6)||eZ n):=by
 unfold ek eZ
 cases (n==5)<;>cases (n==6)<;>rfl
def u9 (k:Nat) (l:List aV) (hl:l.length<=30):∀(n i f:Nat) (a:List Int) (op:List C9),i+n=l.length->n<f->a.length=l.length->op.length<=i->(∀x∈op,(0<=x.1/\x.1<(i:Int))/\x.2.1<(i:Int))->∃o,aG (zI.l0 k) f (l,a,(op,()),(l.length:Int),(i:Int),())=some ((o,kH (d4 ((op.map (bU l)).reverse) ((l.drop i).map (·.1))),()),((),())):=by
 intro n
 induction n with
 |zero=>
  intro i f a op U V W F I;obtain⟨f,rfl⟩:∃g,f=g+1:=⟨f-1,by omega⟩;have D:¬((i:Int)<(l.length:Int)):=by omega
  rw[aF,a2a (by omega)];simp only[zI.l0,ak,a0c D,a4a,d4];refine⟨a,?_⟩
  cases op with
  |nil=>rfl
  |cons x r=>
   have:(((x::r).length:Int)==0)=false:=by simp;omega
   rw[this]
   cases hr:((x::r).map (bU l)).reverse with
   |nil=>simp at hr
   |cons y z=>rfl
 |succ n ih=>
  intro i f a op U V W F I;obtain⟨f,rfl⟩:∃g,f=g+1:=⟨f-1,by omega⟩;have w:i<l.length:=by omega
  have D:((i:Int)<(l.length:Int)):=by omega
  have G:(0:Int)<=(i:Int):=by omega
  have X:0<=(i:Int)/\(i:Int)<(a.length:Int):=by omega
  have Y:(op.length+([((i:Int),(-1),())]:List C9).length)*16<=ai:=by simp[ai];omega
  have Z:=au (i:=i) (by omega);have ki:bU l ((i:Int),(-1),())=l[i].1:=by
   unfold bU;rw[a0c (show¬((-1:Int)>=0) by decide),fH l G (by simpa using w)];simp
  obtain⟨y1,eo⟩:∃y,a[i]?=some y:=⟨_,a0a (by omega)⟩;have next:∀j:List C9,(∀x∈j,(0<=x.1/\x.1<((i+1:Nat):Int))/\x.2.1<((i+1:Nat):Int))->j.length<=i+1->∀b:List Int,b.length=l.length->∃o,aG (zI.l0 k) f (l,b,(j,()),(l.length:Int),((i+1:Nat):Int),())=some ((o,kH (d4 ((j.map (bU l)).reverse) ((l.drop (i+1)).map (·.1))),()),((),())):=λj h1 D b G=>ih (i+1) f b j (by omega) (by omega) G D h1
  have J:∀x∈op,(0<=x.1/\x.1<((i+1:Nat):Int))/\x.2.1<((i+1:Nat):Int):=λx h=>by have:=I x h;omega
  have H:(a.set i ((i+1:Nat):Int)).length=l.length:=by simp;omega
  rw[aF,a1a w,a2i];simp only[zI.l0,Ju,ak (p:=(i:Int)<(l.length:Int)),a0e D,ak (p:=(0:Int)<=(i:Int)),a0e G,ak (p:=0<=(i:Int)/\(i:Int)<(a.length:Int)),a0e X,Z,a0g,eo,a0a w,aa,ln,o8];have hq:(br k (l[i].1==5||l[i].1==6) (some (true,())) (some (eZ l[i].1,())):Option (Bool×Unit))=some (ek l[i].1,()):=by
   rw[uw];cases (l[i].1==5||l[i].1==6)<;>simp
  simp only[hq,a0d]
  cases hop:ek l[i].1 with
  |true=>
   have u:(l[i].1 !=8)=true:=by
    by_cases h:l[i].1=8
    ·rw[h]at hop;exact absurd hop (by decide)
    ·simpa using h
   simp only[ah,ak,a0e Y,aa,a0j,af,u];obtain⟨o,e⟩:=next (op++[((i:Int),(-1),())]) (λx h=>by
    rcases a0l.1 h with h|h
    ·exact J x h
    ·simp at h;subst h;simp;omega) (by simp;omega) _ H
   refine⟨o,e.trans ?_⟩;simp only[a3d,a2i,a4a,a5j,a6o,a6s,a2m,a5k,ki,d4,fu,a0e hop,a0d]
  |false=>
   simp only[af,cg];rcases a4h op with hn|⟨ini,t,hc⟩
   ·subst hn
    have E:wrap .i64 ((([]:List C9).length:Int)-1)<0:=by rw[am (by simp) (by simp)];simp
    by_cases m:l[i].1=7
    ·refine⟨[],?_⟩
     simp only[a0e m,ak,a0e E,a0d,ah,aa,a0v];rw[m];simp[d4,lX,kH]
    ·by_cases q:l[i].1=8
     ·refine⟨[],?_⟩
      simp only[a0c m,a0e q,ak,a0e E,aa,a0v,ah];rw[q];simp[d4,lY,kH]
     ·have u:(l[i].1 !=8)=true:=by simpa using q
      simp only[a0c m,a0c q,aa,a0j,af,u,ah];obtain⟨o,e⟩:=next [] (λx h=>by simp at h) (by simp) _ H;refine⟨o,e.trans ?_⟩;simp only[d4,fu,hop,a0r,a1y,a0c m,a0c q,a0d]
   ·rw[a3u]at hc
    subst hc;obtain⟨⟨A,Ql⟩,Qm⟩:=I t (by simp);have B:t.1.toNat<l.length:=by omega
    have el:(((ini++[t]).length:Int)-1)=(ini.length:Int):=by simp
    have K:wrap .i64 (ini.length:Int)=(ini.length:Int):=am (by omega) (by simp at F;omega);have E:¬(ini.length:Int)<0:=by omega
    have c1:0<=(ini.length:Int)/\(ini.length:Int)<((ini++[t]).length:Int):=by simp only[a0m,a0o,a0q];omega
    have c2:0<=(ini.length:Int)/\(ini.length:Int)<=((ini++[t]).length:Int):=by simp only[a0m,a0o,a0q];omega
    have eg:(ini++[t])[ini.length]?=some t:=by simp
    have T:=fH l A B;have es:aQ (ini++[t]) ((0:Int).toNat) (ini.length-(0:Int).toNat)=ini:=by simp[aQ]
    have L:(((ini++[t]).map (bU l)).reverse)=bU l t::(ini.map (bU l)).reverse:=by simp
    have s:∀x∈ini,(0<=x.1/\x.1<((i+1:Nat):Int))/\x.2.1<((i+1:Nat):Int):=λx h=>J x (by simp[h])
    simp only[el,K,a0g,eg];by_cases m:l[i].1=7
    ·simp only[a0e m,ak,a0c E,a0e c1,a0e A,aa,a0a B,ln]
     by_cases c:bU l t=5\/bU l t=6
     ·have v:¬t.2.1>=0:=by
       intro h;unfold bU at c;rw[a0e h]at c;omega
      have M:l[t.1.toNat].1=5\/l[t.1.toNat].1=6:=by
       unfold bU at c;rw[a0c v,T]at c;exact c
      have C:(br k (!(l[t.1.toNat].1==5||l[t.1.toNat].1==6)) (some (true,())) (some (decide (t.2.1>=0),())):Option (Bool×Unit))=some (false,()):=by
       have:(l[t.1.toNat].1==5||l[t.1.toNat].1==6)=true:=by rcases M with h|h<;>simp[h]
       rw[this,a0j,af,a0i v]
      have u:(l[i].1 !=8)=true:=by rw[m];decide
      simp only[C,a0d,af,aa,a0j,u,ah];have N:(ini++[t]).set ini.length (t.1,(i:Int),())=ini++[(t.1,(i:Int),())]:=by simp
      rw[N];obtain⟨o,e⟩:=next (ini++[(t.1,(i:Int),())]) (λx h=>by
       rcases a0l.1 h with h|h
       ·exact s x h
       ·simp at h;subst h;simp;omega) (by simp at F⊢;omega) _ H
      refine⟨o,e.trans ?_⟩;have k7:bU l (t.1,(i:Int),())=7:=by unfold bU;rw[a0e (by omega)]
      rw[L,m];simp only[a3d,a2i,a4a,a5j,a6o,a6s,a2m,a5k,k7,d4,oz c,a0d]
     ·have C:(br k (!(l[t.1.toNat].1==5||l[t.1.toNat].1==6)) (some (true,())) (some (decide (t.2.1>=0),())):Option (Bool×Unit))=some (true,()):=by
       by_cases d:t.2.1>=0
       ·rw[a0b d]
        cases (l[t.1.toNat].1==5||l[t.1.toNat].1==6)<;>simp
       ·unfold bU at c
        rw[a0c d,T]at c;have:(l[t.1.toNat].1==5||l[t.1.toNat].1==6)=false:=by simp;omega
        rw[this,a0v,ah]
      refine⟨[],?_⟩;simp only[C,a0d,ah,aa,a0v];rw[L,m];simp only[d4,oA c,a5m,kH]
    ·by_cases q:l[i].1=8
     ·have u:(l[i].1 !=8)=false:=by rw[q];decide
      have done:∀b:List Int,b.length=l.length->∃o,aG (zI.l0 k) f (l,b,(ini,()),(l.length:Int),((i+1:Nat):Int),())=some ((o,kH (d4 (((ini++[t]).map (bU l)).reverse) (l[i].1::(l.drop (i+1)).map (·.1))),()),((),())):=by
       intro b O;obtain⟨o,e⟩:=next ini s (by simp at F;omega) b O;refine⟨o,e.trans ?_⟩;rw[L,q];simp only[d4,oB,a0d]
      simp only[a0c m,a0e q,ak,a0c E,a0e c1,a0e c2,es,aa,a0j,af,u];have c3:0<=t.1/\t.1<((a.set i ((i+1:Nat):Int)).length:Int):=by simp;omega
      obtain⟨a1,P⟩:∃y,(a.set i ((i+1:Nat):Int))[t.1.toNat]?=some y:=⟨_,a0a (by simp;omega)⟩;have c4:0<=t.1/\t.1<(((a.set i ((i+1:Nat):Int)).set t.1.toNat (i:Int)).length:Int):=by simp;omega
      obtain⟨a2,Q⟩:∃y,((a.set i ((i+1:Nat):Int)).set t.1.toNat (i:Int))[t.1.toNat]?=some y:=⟨_,a0a (by simp;omega)⟩;have c5:0<=(i:Int)/\(i:Int)<((((a.set i ((i+1:Nat):Int)).set t.1.toNat (i:Int)).set t.1.toNat ((i+1:Nat):Int)).length:Int):=by simp;omega
      obtain⟨a3,R⟩:∃y,(((a.set i ((i+1:Nat):Int)).set t.1.toNat (i:Int)).set t.1.toNat ((i+1:Nat):Int))[i]?=some y:=⟨_,a0a (by simp;omega)⟩;simp only[a0e c3,P,aa,a0e A,a0a B,o8,a0e c4,Q,a0e c5,R]
      cases eZ l[t.1.toNat].1 with
      |true=>rw[ah];exact done _ (by simp;omega)
      |false=>
       rw[af];by_cases d:t.2.1>=0
       ·have c6:0<=t.2.1/\t.2.1<((((a.set i ((i+1:Nat):Int)).set t.1.toNat (i:Int)).set t.1.toNat (wrap .i64 (t.2.1+1))).length:Int):=by simp;omega
        obtain⟨a4,S⟩:∃y,(((a.set i ((i+1:Nat):Int)).set t.1.toNat (i:Int)).set t.1.toNat (wrap .i64 (t.2.1+1)))[t.2.1.toNat]?=some y:=⟨_,a0a (by simp;omega)⟩;simp only[a0e d,a0e c6,S,aa];exact done _ (by simp;omega)
       ·simp only[a0c d]
        exact done _ (by simp;omega)
     ·have u:(l[i].1 !=8)=true:=by simpa using q
      simp only[a0c m,a0c q,aa,a0j,af,u,ah];obtain⟨o,e⟩:=next (ini++[t]) J (by omega) _ H;refine⟨o,e.trans ?_⟩;simp only[d4,fu,hop,a0r,a1y,a0c m,a0c q,a0d]
def yC (k:Nat) (d:4194304<k) (l:List aV) (a:l.length<=30):∃o m,vn k (l,())=some ((o,m,()),((),()))/\decide (m>(l.length:Int))=lW l:=by
 obtain⟨o,m,b,c⟩:=u7 k l a l.length 0 k [] [] (by omega) (by omega) rfl (a1l _) (λx h=>by simp at h);exact⟨o,m,b,c⟩
def yD (k:Nat) (c:4194304<k) (l:List aV) (a:l.length<=30):∃o,zI k (l,())=some ((o,lW l,()),((),())):=by
 unfold zI;have b:0<=(l.length:Int)/\(l.length:Int)<=(l.length:Int)/\(l.length:Int)*8<=ai:=by simp[ai];omega
 simp only[ak,a0e b,a0g];obtain⟨o,h⟩:=u9 k l a l.length 0 k (List.replicate l.length (Kd.z (.int .i64))) [] (by omega) (by omega) (by simp) (a1l _) (λx h=>by simp at h);exact⟨o,h⟩
def vz (n:Nat) (v:Int):Bool:=decide (0<=v/\v<=(n:Int)-1)
def gq {α:Type} (l:List α):Bool:=(l.length:Int)==0
def lZ (a b:Int):Bool:=decide (-999999999999999999<=a/\a<=b)&& decide (b<=999999999999999999)
def bm (d:ar) (n:aV):Bool:=
 if n.1=1 then vz d.1.length n.2.1&& (gq n.2.2.1&& ((bO d n.2.2.2.1==1)&& ((n.2.2.2.2.1==0)&& (n.2.2.2.2.2.1==0))))
 else if n.1=2 then vz d.2.1.length n.2.1&& (gq n.2.2.1&& ((bO d n.2.2.2.1==2)&& ((n.2.2.2.2.1==0)&& (n.2.2.2.2.2.1==0))))
 else if n.1=3 then vz d.2.2.1.length n.2.1&& ((bO d n.2.2.1==1)&& ((bO d n.2.2.2.1==1)&& ((n.2.2.2.2.1==0)&& (n.2.2.2.2.2.1==0))))
 else if n.1=4 then vz d.1.length n.2.1&& (gq n.2.2.1&& (gq n.2.2.2.1&& lZ n.2.2.2.2.1 n.2.2.2.2.2.1))
 else if n.1=13 then vz d.1.length n.2.1&& (gq n.2.2.1&& (gq n.2.2.2.1&& (lZ n.2.2.2.2.1 n.2.2.2.2.2.1&& decide (n.2.2.2.2.2.1<=n.2.2.2.2.1+3))))
 else if n.1=10 then(n.2.1==0)&& (gq n.2.2.1&& ((bO d n.2.2.2.1==2)&& (decide (1<=n.2.2.2.2.1/\n.2.2.2.2.1<=3)&& (n.2.2.2.2.2.1==0))))
 else if n.1=5\/n.1=6\/n.1=9\/n.1=11\/n.1=12 then(n.2.1==0)&& (gq n.2.2.1&& ((bO d n.2.2.2.1==2)&& ((n.2.2.2.2.1==0)&& (n.2.2.2.2.2.1==0))))
 else if n.1=7\/n.1=8\/n.1=14 then(n.2.1==0)&& (gq n.2.2.1&& (gq n.2.2.2.1&& ((n.2.2.2.2.1==0)&& (n.2.2.2.2.2.1==0))))
 else false
def mR (n:Int):n=1\/n=2\/n=3\/n=4\/n=5\/n=6\/n=7\/n=8\/n=9\/n=10\/n=11\/n=12\/n=13\/n=14\/(n<1\/14<n):=by omega
def Ld (k:Nat) {α:Type} (a b c:Int) (f:_->Option α):bd k (z6 k (a,b,c,())) f=f ((decide (b<=a/\a<=c),()),((),(),(),())):=by rw[dC,aa]
def Nq (k:Nat) {α:Type} (l:eQ) (f:_->Option α):bd k (w8 k (l,())) f=f (((l.length:Int),()),((),())):=by unfold w8;rw[aa]
def Nr (k:Nat) {α:Type} (l:List pm) (f:_->Option α):bd k (Cn k (l,())) f=f (((l.length:Int),()),((),())):=by unfold Cn;rw[aa]
def HL (k:Nat) (n:aV):FH k (n,())=some (((n.2.1==0)&& (gq n.2.2.1&& (gq n.2.2.2.1&& ((n.2.2.2.2.1==0)&& (n.2.2.2.2.2.1==0)))),()),((),())):=by
 unfold FH gq;simp only
 cases (n.2.1==0)<;>cases ((n.2.2.1.length:Int)==0)<;>cases ((n.2.2.2.1.length:Int)==0)<;>cases (n.2.2.2.2.1==0)<;>simp
def HM (k:Nat) (n:aV):xd k (n,())=some ((lZ n.2.2.2.2.1 n.2.2.2.2.2.1,()),((),())):=by
 unfold xd lZ;simp only[dC,aa]
 cases decide (-999999999999999999<=n.2.2.2.2.1/\n.2.2.2.2.1<=n.2.2.2.2.2.1)<;>simp
def Ns (k:Nat) {α:Type} (n:aV) (f:_->Option α):bd k (FH k (n,())) f=f (((n.2.1==0)&& (gq n.2.2.1&& (gq n.2.2.2.1&& ((n.2.2.2.2.1==0)&& (n.2.2.2.2.2.1==0)))),()),((),())):=by rw[HL,aa]
def OH (k:Nat) {α:Type} (n:aV) (f:_->Option α):bd k (xd k (n,())) f=f ((lZ n.2.2.2.2.1 n.2.2.2.2.2.1,()),((),())):=by rw[HM,aa]
def ux (n:Int):Int:=if n=1\/n=3 then 1 else if n=2\/n=5\/n=6\/n=9\/n=10\/n=11\/n=12 then 2 else 0
def HN (k:Nat) (n:Int):GQ k (n,())=some ((ux n,()),((),())):=by
 rcases mR n with rfl|rfl|rfl|rfl|rfl|rfl|rfl|rfl|rfl|rfl|rfl|rfl|rfl|rfl|h
 all_goals first
  |(unfold GQ ux;simp[cg];done)
  |(
   have e:∀c:Int,1<=c->c<=14->¬n=c:=λc a b=>by omega
   unfold GQ ux;simp[cg,e])
def Le (k:Nat) (t:4194304<k) (g:k<=4611686018427387903) (d:ar) (i:fC d) (n:aV) (u:n.2.2.1.length<=1048576) (w:n.2.2.2.1.length<=1048576):AR k (d,n,())=some ((bm d n,()),((),(),())):=by
 obtain⟨a,v,I,E,c,e,⟨⟩⟩:=n;simp only at u w;have M:=i.n0;have N:=i.n1;have n2:=i.n2;have x:=am (n:=(d.1.length:Int)-1) (by omega) (by omega);have w1:=am (n:=(d.2.1.length:Int)-1) (by omega) (by omega);have y:=am (n:=(d.2.2.1.length:Int)-1) (by omega) (by omega);have z:∀ {α:Type} (f:_->Option α),bd k (GR k (d,E,())) f=f ((bO d E,()),((),(),())):=λf=>by rw[Bd k t g d i E w,aa]
 have A:∀ {α:Type} (f:_->Option α),bd k (GR k (d,I,())) f=f ((bO d I,()),((),(),())):=λf=>by rw[Bd k t g d i I u,aa]
 unfold AR bm;rcases mR a with rfl|rfl|rfl|rfl|rfl|rfl|rfl|rfl|rfl|rfl|rfl|rfl|rfl|rfl|h
 all_goals (simp(config:= {failIfUnchanged:=false}) only[mZ,AR.h7,AR.h11,AR.h12,HN,ux,aa,cg,ak,z,A,Nq,Nr,Ld,Ns,OH,x,w1,y,↓reduceIte,Int.reduceEq,Int.reduceLT,Int.reduceGT,Int.reduceLE,Int.reduceNe,or_true,true_or,a8n,false_or,a0d,ah,af,Int.reduceBEq,Int.reduceBNe,gt_iff_lt])
 case inr.inr.inr.inr.inr.inr.inr.inr.inr.inr.inr.inr.inr.inr=>
  have B:¬a=1:=by omega
  have C:¬a=2:=by omega
  have D:¬a=3:=by omega
  have F:¬a=4:=by omega
  have G:¬a=5:=by omega
  have H:¬a=6:=by omega
  have J:¬a=7:=by omega
  have K:¬a=8:=by omega
  have L:¬a=9:=by omega
  have l:¬a=10:=by omega
  have m:¬a=11:=by omega
  have o:¬a=12:=by omega
  have j:¬a=13:=by omega
  have p:¬a=14:=by omega
  have q:¬(1<=a/\a<=14):=by omega
  have r:(a==13)=false:=by simpa using j
  simp only[B,C,D,F,G,H,J,K,L,l,m,o,j,p,q,r,or_self,↓reduceIte,a0d,af,Int.reduceLT]
 case inr.inr.inr.inr.inr.inr.inr.inr.inr.inr.inr.inr.inl=>
  by_cases b:0<=v/\v<=(d.1.length:Int)-1
  ·cases he:lZ c e with
   |false=>simp[vz,b,he]
   |true=>
    have O:(-999999999999999999<=c/\c<=e)/\e<=999999999999999999:=by
     unfold lZ at he;rw[a0f]at he;exact⟨a0x he.1,a0x he.2⟩
    have s:decide (e-c<=3)=decide (e<=c+3):=by apply decide_eq_decide.2;omega
    rw[am (n:=e-c) (by omega) (by omega),s]
    cases decide (e<=c+3)<;>simp[vz,b,gq]
  ·simp[vz,b]
 case inr.inr.inr.inr.inr.inr.inr.inr.inr.inl=>
  by_cases b:1<=c/\c<=3<;>cases he:(bO d E==2)<;>simp[bne,vz,b,he,gq]
 case inl=>
  by_cases b:0<=v/\v<=(d.1.length:Int)-1<;>cases he:(bO d E==1)<;>simp[bne,vz,b,he,gq]
 case inr.inl=>
  by_cases b:0<=v/\v<=(d.2.1.length:Int)-1<;>cases he:(bO d E==2)<;>simp[bne,vz,b,he,gq]
 case inr.inr.inl=>
  by_cases b:0<=v/\v<=(d.2.2.1.length:Int)-1<;>cases he:(bO d E==1)<;>cases e:(bO d I==1)<;>simp[bne,vz,b,he,e,gq]
 case inr.inr.inr.inl=>
  by_cases b:0<=v/\v<=(d.1.length:Int)-1<;>cases he:lZ c e<;>simp[bne,vz,b,he,gq]
 all_goals (cases he:(bO d E==2)<;>simp[bne,he,gq])
def IG (d:ar) (n:Int):Int:=if n=1\/n=4\/n=13 then(d.1.length:Int)else if n=2 then(d.2.1.length:Int)else if n=3 then(d.2.2.1.length:Int)else-1
def Bp (k:Nat) (d:ar) (n:Int):GJ k (d,n,())=some ((IG d n,n==3,ux n,(n==4||(n==10||n==13)),()),((),(),())):=by
 rcases mR n with rfl|rfl|rfl|rfl|rfl|rfl|rfl|rfl|rfl|rfl|rfl|rfl|rfl|rfl|h
 all_goals first
  |(unfold GJ ux IG;simp[cg];done)
  |(
   have e:∀c:Int,1<=c->c<=14->¬n=c:=λc i j=>by omega
   have f:(n==3)=false:=by simpa using e 3 (by omega) (by omega)
   have g:(n==4)=false:=by simpa using e 4 (by omega) (by omega)
   have a:(n==10)=false:=by simpa using e 10 (by omega) (by omega)
   have b:(n==13)=false:=by simpa using e 13 (by omega) (by omega)
   unfold GJ ux IG;simp[cg,e,f,g,a,b])
def O3 (k:Nat) {α:Type} (a b c:Int) (f:_->Option α):bd k (qW k (a,b,c,())) f=f ((decide (b<=a/\a<=c),()),((),(),(),())):=by rw[jP,aa]
def Pv {α:Type} (l:List α):decide ((l.length:Int)>0)= !gq l:=by
 unfold gq
 cases l with
 |nil=>rfl
 |cons x r=>simp;omega
def ry (a b:Int):lZ a b=(decide (-999999999999999999<=a/\a<=999999999999999999)&& decide (a<=b/\b<=999999999999999999)):=by
 rw[a4g];simp only[lZ,a0f,a0u];omega
def Lf (k:Nat) (w:4194304<k) (i:k<=4611686018427387903) (d:ar) (j:fC d) (l:aN d=true) (n:aV):GL k (d,n,())=some ((bm d n,()),((),(),())):=by
 obtain⟨c,v,I,E,e,g,⟨⟩⟩:=n;have S:=j.n0;have T:=j.n1;have n2:=j.n2;have x:=am (n:=(d.1.length:Int)-1) (by omega) (by omega);have w1:=am (n:=(d.2.1.length:Int)-1) (by omega) (by omega);have y:=am (n:=(d.2.2.1.length:Int)-1) (by omega) (by omega);have z:¬((d.1.length:Int)<0):=by omega
 have A:¬((d.2.1.length:Int)<0):=by omega
 have B:¬((d.2.2.1.length:Int)<0):=by omega
 have C:((d.1.length:Int)>=0):=by omega
 have D:((d.2.1.length:Int)>=0):=by omega
 have F:((d.2.2.1.length:Int)>=0):=by omega
 have G:∀ {α:Type} (f:_->Option α),bd k (AP k (d,E,())) f=f ((bO d E,()),((),(),())):=λf=>by rw[Be k w i d j E l,aa]
 have H:∀ {α:Type} (f:_->Option α),bd k (AP k (d,I,())) f=f ((bO d I,()),((),(),())):=λf=>by rw[Be k w i d j I l,aa]
 unfold GL bm;rcases mR c with rfl|rfl|rfl|rfl|rfl|rfl|rfl|rfl|rfl|rfl|rfl|rfl|rfl|rfl|h
 case inr.inr.inr.inr.inr.inr.inr.inr.inr.inr.inr.inr.inr.inr=>
  have J:¬c=1:=by omega
  have K:¬c=2:=by omega
  have L:¬c=3:=by omega
  have M:¬c=4:=by omega
  have N:¬c=5:=by omega
  have O:¬c=6:=by omega
  have P:¬c=7:=by omega
  have Q:¬c=8:=by omega
  have R:¬c=9:=by omega
  have o:¬c=10:=by omega
  have p:¬c=11:=by omega
  have q:¬c=12:=by omega
  have r:¬c=13:=by omega
  have s:¬c=14:=by omega
  have t:¬(1<=c/\c<=14):=by omega
  simp only[Bp,aa,O3,a0i t,a0v,ah,J,K,L,M,N,O,P,Q,R,o,p,q,r,s,or_self,↓reduceIte]
 all_goals (simp(config:= {failIfUnchanged:=false}) only[Bp,IG,ux,aa,cg,ak,G,H,O3,x,w1,y,z,A,B,C,D,F,Pv,↓reduceIte,Int.reduceEq,Int.reduceLT,Int.reduceGT,Int.reduceLE,Int.reduceGE,Int.reduceNe,Int.reduceNeg,or_true,true_or,a8n,false_or,a0d,ah,af,Int.reduceBEq,Int.reduceBNe,gt_iff_lt,ge_iff_le,and_self,decide_true,a0j,a0v,Bool.or_self,Bool.or_true,a7f,a8v,a5i,Int.reduceSub])
 case inl=>
  by_cases b:0<=v/\v<=(d.1.length:Int)-1<;>cases hn:gq I<;>cases he:(bO d E==1)<;>cases a:(e==0)<;>cases hhi:(g==0)<;>simp[bne,vz,b,he,hn,a,hhi]
 case inr.inl=>
  by_cases b:0<=v/\v<=(d.2.1.length:Int)-1<;>cases hn:gq I<;>cases he:(bO d E==2)<;>cases a:(e==0)<;>cases hhi:(g==0)<;>simp[bne,vz,b,he,hn,a,hhi]
 case inr.inr.inl=>
  by_cases b:0<=v/\v<=(d.2.2.1.length:Int)-1<;>cases he:(bO d E==1)<;>cases hI:(bO d I==1)<;>cases a:(e==0)<;>cases hhi:(g==0)<;>simp[bne,vz,b,he,hI,a,hhi]
 case inr.inr.inr.inl=>
  rw[ry];by_cases b:0<=v/\v<=(d.1.length:Int)-1<;>cases hn:gq I<;>cases he:gq E<;>cases m:decide (-999999999999999999<=e/\e<=999999999999999999)<;>cases u:decide (e<=g/\g<=999999999999999999)<;>simp[bne,vz,b,he,hn]
 case inr.inr.inr.inr.inr.inr.inr.inr.inr.inr.inr.inr.inl=>
  by_cases b:0<=v/\v<=(d.1.length:Int)-1
  ·cases hn:gq I
   ·simp[bne,vz,b,hn]
   cases he:gq E
   ·simp[bne,vz,b,hn,he]
   by_cases m: -999999999999999999<=e/\e<=999999999999999999
   ·by_cases u:e<=g/\g<=999999999999999999
    ·rw[am (n:=e+3) (by omega) (by omega),ry,a0b m,a0b u]
     cases decide (g<=e+3)<;>simp[bne,vz,b]
    ·rw[ry,a0b m,a0i u]
     simp[bne,vz,b]
   ·rw[ry,a0i m]
    simp[bne,vz,b]
  ·simp[vz,b]
 case inr.inr.inr.inr.inr.inr.inr.inr.inr.inl=>
  by_cases a:1<=e/\e<=3<;>cases b:(v==0)<;>cases hn:gq I<;>cases he:(bO d E==2)<;>simp[bne,b,he,hn,a]
 all_goals (cases b:(v==0)<;>cases hn:gq I<;>cases he:(bO d E==2)<;>cases hE:gq E<;>cases a:(e==0)<;>cases hhi:(g==0)<;>simp[bne,b,he,hn,hE,a,hhi])
