/- The law FnFlowAlarm: whatever the input it returns true, and the input reads as it did. The row, and its card. -/
import Derived.Test.YtjjmipjhddlncaaGreatDoorRows
import Derived.Test.YtjjmipjhddlncaaGreatDoorCards
import Derived.Test.YtjjmipjhddlncaaGreatDoorTie
import Derived.Test.YtjjmipjhddlncaaGreatDoorA02
import Derived.Test.YtjjmipjhddlncaaGreatDoorA07
import Derived.Test.YtjjmipjhddlncaaGreatDoorA17
import Derived.WalkKit
import Derived.ProofKit
import Derived.OpenShut
import Derived.Handed
import Derived.JoinedOf
import Derived.Below
import Derived.SizedLaws
import Derived.SevenTiedAt
import Derived.LaidSub
import Derived.LaidHandle
import Derived.KernelRfl
set_option linter.all false
noncomputable section
namespace Go.Proofs.YtjjmipjhddlncaaGreatDoor.fnFlowAlarm
open Go.ChangeShapes Go.WideShapes Go.ChangeAt Go.RowKit Go.Pev
set_option maxRecDepth 100000
theorem own:ownKnob Tryz.prog.godebug=none:=by kernel_rfl
theorem laidOut:laidOutB Tryz.prog=true:=by kernel_rfl
def laidWorld (os:Os):World:=
 let w0:=World.holding Tryz.prog os ⟨#[], #[],[]⟩
 let B:=w0.heap.size
 {w0 with heap:=((((w0.heap.modify 1 λ| .cells _ t fr=> .cells #[.pointer (some ⟨B+1,0,none⟩)] t fr|o=>o).modify 0 λ| .cells _ t fr=> .cells #[.int .u8 0,.int .u8 0,.int .u8 0,.int .u8 0,.int .u8 0,.int .u8 0,.int .u8 0,.int .u8 0,.int .u8 0,.int .u8 1,.int .u8 1,.int .u8 1,.int .u8 1,.int .u8 1,.int .u8 0,.int .u8 0,.int .u8 0,.int .u8 0,.int .u8 0,.int .u8 0,.int .u8 0,.int .u8 0,.int .u8 0,.int .u8 0,.int .u8 0,.int .u8 0,.int .u8 0,.int .u8 0,.int .u8 0,.int .u8 0,.int .u8 0,.int .u8 0,.int .u8 1,.int .u8 0,.int .u8 0,.int .u8 0,.int .u8 0,.int .u8 0,.int .u8 0,.int .u8 0,.int .u8 0,.int .u8 0,.int .u8 0,.int .u8 0,.int .u8 0,.int .u8 0,.int .u8 0,.int .u8 0,.int .u8 0,.int .u8 0,.int .u8 0,.int .u8 0,.int .u8 0,.int .u8 0,.int .u8 0,.int .u8 0,.int .u8 0,.int .u8 0,.int .u8 0,.int .u8 0,.int .u8 0,.int .u8 0,.int .u8 0,.int .u8 0,.int .u8 0,.int .u8 0,.int .u8 0,.int .u8 0,.int .u8 0,.int .u8 0,.int .u8 0,.int .u8 0,.int .u8 0,.int .u8 0,.int .u8 0,.int .u8 0,.int .u8 0,.int .u8 0,.int .u8 0,.int .u8 0,.int .u8 0,.int .u8 0,.int .u8 0,.int .u8 0,.int .u8 0,.int .u8 0,.int .u8 0,.int .u8 0,.int .u8 0,.int .u8 0,.int .u8 0,.int .u8 0,.int .u8 0,.int .u8 0,.int .u8 0,.int .u8 0,.int .u8 0,.int .u8 0,.int .u8 0,.int .u8 0,.int .u8 0,.int .u8 0,.int .u8 0,.int .u8 0,.int .u8 0,.int .u8 0,.int .u8 0,.int .u8 0,.int .u8 0,.int .u8 0,.int .u8 0,.int .u8 0,.int .u8 0,.int .u8 0,.int .u8 0,.int .u8 0,.int .u8 0,.int .u8 0,.int .u8 0,.int .u8 0,.int .u8 0,.int .u8 0,.int .u8 0,.int .u8 0,.int .u8 0,.int .u8 0,.int .u8 0,.int .u8 0,.int .u8 0,.int .u8 0,.int .u8 0,.int .u8 0,.int .u8 0,.int .u8 0,.int .u8 0,.int .u8 0,.int .u8 0,.int .u8 0,.int .u8 0,.int .u8 0,.int .u8 0,.int .u8 0,.int .u8 0,.int .u8 0,.int .u8 0,.int .u8 0,.int .u8 0,.int .u8 0,.int .u8 0,.int .u8 0,.int .u8 0,.int .u8 0,.int .u8 0,.int .u8 0,.int .u8 0,.int .u8 0,.int .u8 0,.int .u8 0,.int .u8 0,.int .u8 0,.int .u8 0,.int .u8 0,.int .u8 0,.int .u8 0,.int .u8 0,.int .u8 0,.int .u8 0,.int .u8 0,.int .u8 0,.int .u8 0,.int .u8 0,.int .u8 0,.int .u8 0,.int .u8 0,.int .u8 0,.int .u8 0,.int .u8 0,.int .u8 0,.int .u8 0,.int .u8 0,.int .u8 0,.int .u8 0,.int .u8 0,.int .u8 0,.int .u8 0,.int .u8 0,.int .u8 0,.int .u8 0,.int .u8 0,.int .u8 0,.int .u8 0,.int .u8 0,.int .u8 0,.int .u8 0,.int .u8 0,.int .u8 0,.int .u8 0,.int .u8 0,.int .u8 0,.int .u8 0,.int .u8 0,.int .u8 0,.int .u8 0,.int .u8 0,.int .u8 0,.int .u8 0,.int .u8 0,.int .u8 0,.int .u8 0,.int .u8 0,.int .u8 0,.int .u8 0,.int .u8 0,.int .u8 0,.int .u8 0,.int .u8 0,.int .u8 0,.int .u8 0,.int .u8 0,.int .u8 0,.int .u8 0,.int .u8 0,.int .u8 0,.int .u8 0,.int .u8 0,.int .u8 0,.int .u8 0,.int .u8 0,.int .u8 0,.int .u8 0,.int .u8 0,.int .u8 0,.int .u8 0,.int .u8 0,.int .u8 0,.int .u8 0,.int .u8 0,.int .u8 0,.int .u8 0,.int .u8 0,.int .u8 0,.int .u8 0,.int .u8 0,.int .u8 0,.int .u8 0,.int .u8 0,.int .u8 0,.int .u8 0,.int .u8 0,.int .u8 0,.int .u8 0,.int .u8 0,.int .u8 0,.int .u8 0,.int .u8 0,.int .u8 0] t fr|o=>o).push (.cells #[.int .u16 9,.int .u16 13,.int .u16 1,.int .u16 32,.int .u16 133,.int .u16 101,.int .u16 160,.int .u16 5760,.int .u16 5600,.int .u16 8192,.int .u16 8202,.int .u16 1,.int .u16 8232,.int .u16 8233,.int .u16 1,.int .u16 8239,.int .u16 8287,.int .u16 48,.int .u16 12288,.int .u16 12288,.int .u16 1] 441 (0,0))).push (.cells #[.slice (some ⟨B+0,0,none⟩) 7 7,.slice none 0 0,.int .i64 2] 438 (0,0)))}
theorem laid_met (os:Os) (args:Array Value):laidMetH Tryz.prog Rows.fnFlowAlarmRow.laid ((laidWorld os).forCall (λ_ _=>0) ⟨#[],args,[]⟩).memory:=laidMetH_of_parts (laidMet_of_run' 8 (by kernel_rfl) (by kernel_rfl)) (by kernel_rfl)
theorem lifted (os:Os) (a:os.Started) (H:Type) (enc:TypeId×Value->H):ReturnsInHanded {} Tryz.checked os 3 .any (λw args=>(Rows.fnFlowAlarmSpec.pre enc Tryz.prog Tryz.f3 [] false w args/\laidMetH Tryz.prog Rows.fnFlowAlarmRow.laid w)/\sizedMet enc Tryz.prog Tryz.f3 (OpenSpec.ofChange Rows.fnFlowAlarmSpec) false w args) (Rows.fnFlowAlarmSpec.post enc Tryz.prog Tryz.f3 false true false false):=by
 refine returnsInHanded_of_change_and (C:=Tryz.checked) (X:=λw _=>laidMetH Tryz.prog Rows.fnFlowAlarmRow.laid w) (λ_ _ _ R h=>h.of_heap R) own a (by kernel_rfl) Tryz.func3 (ChangeSpec.witness_shaped (enc:=enc) (C:=Tryz.checked) (os:=os) (X:=λw _=>laidMetH Tryz.prog Rows.fnFlowAlarmRow.laid w) false (laidWorld os) #[.slice none 0 0] 8 rfl (World.shaped_of_RefB (by kernel_rfl) (by kernel_rfl)) (by kernel_rfl) (by kernel_rfl) (by kernel_rfl) (laid_met os _)) ?_
 intro W l args s z u d N _ m S _;have c:∀(j:Nat) t v,Tryz.f3.params[j]?=some t->args[j]?=some v->Value.okWide Tryz.prog W .any l t v:=d;have A:=N;obtain⟨p,q,B,D,rfl,T,U⟩:=N;have i:DataW.TrodAll enc Tryz.prog W 0 (λ_=>true) true Tryz.f3.params.toList args.toList s p:=B;have O:DataW.TrodVars enc Tryz.prog W (λ_=>true) [] z q:=D;obtain⟨rfl,rfl⟩:z=[]/\q=[]:=by
  cases z with
  |nil=>exact⟨rfl,O⟩
  |cons g r=>exact absurd O (by intro h;cases h)
 have E:(DataW.weightsEach Tryz.prog [22] s).all (·<=reachBytes)=true:=by
  have h:(DataW.weightsEach Tryz.prog (Tryz.f3.params.toList++[]) (s++[])).all (·<=reachBytes)=true:=m;rw[Tryz.params3]at h;simpa using h
 rw[Tryz.params3]at i c;have i:DataW.TrodAll enc Tryz.prog W 0 (λ_=>true) true [22] args.toList s p:=i;obtain⟨x,V,G⟩:=DU (P:=Tryz.prog) [22] [(.sl false (.int .u8))] i rfl (by kernel_rfl) (λj t v Y Z=>c j t v (by simpa using Y) (by simpa using Z)) E;obtain⟨y,rfl⟩:=L6 (uB _ i);obtain⟨I,J,K⟩:=F.Lb.needSp_of (w:=W) (Go.Lib.tabIs_of_head (rest:=[]) (g:=0) (t:=372) (e:=5) (n:=256) (by kernel_rfl) (by kernel_rfl) (by kernel_rfl) (by kernel_rfl) (by kernel_rfl) (by kernel_rfl) ((laidMetH_iff.1 (S.filter λx=>x.1== "strings.asciiSpace")).1));have Q:=I1 (P:=Tryz.prog) (L:=I) (f:=3) (ks:=[(.sl false (.int .u8))]) (den:=F.GK) (λk=>F.GK.ok (F.Lb.NeedSp.mono J (by intro p hp;simp[hp])) k) (λx h=>F.tQ x h) K V G;rw[a6z]at Q;refine Q.mono λe W' ⟨he,o⟩=> ?_
 subst he;have M:(Rows.fnFlowAlarmSpec).fn H ([y]++[])= {results:=[.lit (.bool true)],args:=[y]}:=rfl;refine⟨_,rfl,[y],[],_,[],p,[],A,?_,?_,?_,o.frame _,λh=>by cases h⟩
 ·rw[M];exact trodAll_mk1 (shut_bool Tryz.underlying4 _)
 ·rw[M]
  show DataW.TrodAll enc Tryz.prog W' 0 (λb=>decide (b<W.heap.size)) true Tryz.f3.params.toList args.toList [y] p;rw[Tryz.params3];exact rL laidOut o [22] (by kernel_rfl) i
 ·rw[M];rfl
theorem over:Rows.fnFlowAlarmRow.holds Tryz.pinned (OpenSpec.ofChange Rows.fnFlowAlarmSpec):=OpenClaim.holds_of_wide 3 Tryz.f3 rfl rfl rfl rfl rfl rfl rfl ⟨rfl,rfl,rfl,rfl,rfl⟩ rfl rfl rfl rfl rfl (by kernel_rfl) Tryz.func3 jf
 (a0z (by kernel_rfl)) (by unfold Func.isWrapper;first|(rw[a0b (by decide+kernel)];kernel_rfl)|(rw[a0e (by decide+kernel)];exact⟨rfl,rfl⟩))
 (λos a H enc _=>lifted os a H enc)
theorem card_holds:Claim7.holds Tryz.pinned (.plain (OpenSpec.ofChange Rows.fnFlowAlarmSpec)) Rows.fnFlowAlarmCard:=Claim7.holds_tied_plain_at .later [] [.listed,.data] true (true,"a00fd0112d39b832c1aeb4cc39b2ccba2584884c09470c0818d4a2667a7121ea") false over (λ_ h=>by cases h) (by kernel_rfl) (λ_ h=>by cases h) fnFlowAlarm_row_tie rfl ⟨rfl,rfl⟩ jfm rfl
 (λf fn d b=>by
  obtain rfl:f=3:=a1f ((show Tryz.prog.funcNamed "loop.example/g00719/laws.FnFlowAlarm" =some 3 by kernel_rfl).symm.trans d)|>.symm;obtain rfl:fn=Tryz.f3:=(a1f (Tryz.func3.symm.trans b)).symm;exact⟨jfl,λj t c=>by
   rw[Tryz.params3]at c;have e:t∈[22]:=by simpa using Array.mem_of_getElem? c
   have a:([22]:List Nat).all (λt=> !Tryz.prog.wantsStandIn t)=true:=jfw;have:=a1g.1 a t e;exact(show Tryz.prog.wantsStandIn t=false by simpa using this)⟩)
 jfg
end Go.Proofs.YtjjmipjhddlncaaGreatDoor.fnFlowAlarm
namespace Go.Proofs.YtjjmipjhddlncaaGreatDoor
theorem FnFlowAlarm_holds:Rows.FnFlowAlarmCardSaid:=fnFlowAlarm.card_holds
#print axioms FnFlowAlarm_holds
end Go.Proofs.YtjjmipjhddlncaaGreatDoor
