/- The law FnExactCertified: whatever the input it returns true, and the input reads as it did. The row, and its card. -/
import Derived.Test.YtjjmipjhddlncaaGreatDoorRows
import Derived.Test.YtjjmipjhddlncaaGreatDoorCards
import Derived.Test.YtjjmipjhddlncaaGreatDoorTie
import Derived.Test.YtjjmipjhddlncaaGreatDoorK02
import Derived.Test.YtjjmipjhddlncaaGreatDoorK07
import Derived.Test.YtjjmipjhddlncaaGreatDoorK17
import Derived.WalkKit
import Derived.ProofKit
import Derived.OpenShut
import Derived.Handed
import Derived.JoinedOf
import Derived.Below
import Derived.SizedLaws
import Derived.SevenTiedAt
import Derived.LaidSub
import Derived.LaidHandle
import Derived.KernelRfl
set_option linter.all false
noncomputable section
namespace Go.Proofs.YtjjmipjhddlncaaGreatDoor.fnExactCertified
open Go.ChangeShapes Go.WideShapes Go.ChangeAt Go.RowKit Go.Pev
set_option maxRecDepth 100000
theorem own:ownKnob Tryz.prog.godebug=none:=by kernel_rfl
theorem laidOut:laidOutB Tryz.prog=true:=by kernel_rfl
noncomputable def laidWorld (os:Os):World:=
 let w0:=World.holding Tryz.prog os ⟨#[], #[],[]⟩
 let B:=w0.heap.size
 {w0 with heap:=((((w0.heap.modify 1 λ| .cells _ t fr=> .cells #[.pointer (some ⟨B+1,0,none⟩)] t fr|o=>o).modify 0 λ| .cells _ t fr=> .cells #[.int .u8 0,.int .u8 0,.int .u8 0,.int .u8 0,.int .u8 0,.int .u8 0,.int .u8 0,.int .u8 0,.int .u8 0,.int .u8 1,.int .u8 1,.int .u8 1,.int .u8 1,.int .u8 1,.int .u8 0,.int .u8 0,.int .u8 0,.int .u8 0,.int .u8 0,.int .u8 0,.int .u8 0,.int .u8 0,.int .u8 0,.int .u8 0,.int .u8 0,.int .u8 0,.int .u8 0,.int .u8 0,.int .u8 0,.int .u8 0,.int .u8 0,.int .u8 0,.int .u8 1,.int .u8 0,.int .u8 0,.int .u8 0,.int .u8 0,.int .u8 0,.int .u8 0,.int .u8 0,.int .u8 0,.int .u8 0,.int .u8 0,.int .u8 0,.int .u8 0,.int .u8 0,.int .u8 0,.int .u8 0,.int .u8 0,.int .u8 0,.int .u8 0,.int .u8 0,.int .u8 0,.int .u8 0,.int .u8 0,.int .u8 0,.int .u8 0,.int .u8 0,.int .u8 0,.int .u8 0,.int .u8 0,.int .u8 0,.int .u8 0,.int .u8 0,.int .u8 0,.int .u8 0,.int .u8 0,.int .u8 0,.int .u8 0,.int .u8 0,.int .u8 0,.int .u8 0,.int .u8 0,.int .u8 0,.int .u8 0,.int .u8 0,.int .u8 0,.int .u8 0,.int .u8 0,.int .u8 0,.int .u8 0,.int .u8 0,.int .u8 0,.int .u8 0,.int .u8 0,.int .u8 0,.int .u8 0,.int .u8 0,.int .u8 0,.int .u8 0,.int .u8 0,.int .u8 0,.int .u8 0,.int .u8 0,.int .u8 0,.int .u8 0,.int .u8 0,.int .u8 0,.int .u8 0,.int .u8 0,.int .u8 0,.int .u8 0,.int .u8 0,.int .u8 0,.int .u8 0,.int .u8 0,.int .u8 0,.int .u8 0,.int .u8 0,.int .u8 0,.int .u8 0,.int .u8 0,.int .u8 0,.int .u8 0,.int .u8 0,.int .u8 0,.int .u8 0,.int .u8 0,.int .u8 0,.int .u8 0,.int .u8 0,.int .u8 0,.int .u8 0,.int .u8 0,.int .u8 0,.int .u8 0,.int .u8 0,.int .u8 0,.int .u8 0,.int .u8 0,.int .u8 0,.int .u8 0,.int .u8 0,.int .u8 0,.int .u8 0,.int .u8 0,.int .u8 0,.int .u8 0,.int .u8 0,.int .u8 0,.int .u8 0,.int .u8 0,.int .u8 0,.int .u8 0,.int .u8 0,.int .u8 0,.int .u8 0,.int .u8 0,.int .u8 0,.int .u8 0,.int .u8 0,.int .u8 0,.int .u8 0,.int .u8 0,.int .u8 0,.int .u8 0,.int .u8 0,.int .u8 0,.int .u8 0,.int .u8 0,.int .u8 0,.int .u8 0,.int .u8 0,.int .u8 0,.int .u8 0,.int .u8 0,.int .u8 0,.int .u8 0,.int .u8 0,.int .u8 0,.int .u8 0,.int .u8 0,.int .u8 0,.int .u8 0,.int .u8 0,.int .u8 0,.int .u8 0,.int .u8 0,.int .u8 0,.int .u8 0,.int .u8 0,.int .u8 0,.int .u8 0,.int .u8 0,.int .u8 0,.int .u8 0,.int .u8 0,.int .u8 0,.int .u8 0,.int .u8 0,.int .u8 0,.int .u8 0,.int .u8 0,.int .u8 0,.int .u8 0,.int .u8 0,.int .u8 0,.int .u8 0,.int .u8 0,.int .u8 0,.int .u8 0,.int .u8 0,.int .u8 0,.int .u8 0,.int .u8 0,.int .u8 0,.int .u8 0,.int .u8 0,.int .u8 0,.int .u8 0,.int .u8 0,.int .u8 0,.int .u8 0,.int .u8 0,.int .u8 0,.int .u8 0,.int .u8 0,.int .u8 0,.int .u8 0,.int .u8 0,.int .u8 0,.int .u8 0,.int .u8 0,.int .u8 0,.int .u8 0,.int .u8 0,.int .u8 0,.int .u8 0,.int .u8 0,.int .u8 0,.int .u8 0,.int .u8 0,.int .u8 0,.int .u8 0,.int .u8 0,.int .u8 0,.int .u8 0,.int .u8 0,.int .u8 0,.int .u8 0,.int .u8 0,.int .u8 0,.int .u8 0,.int .u8 0,.int .u8 0,.int .u8 0,.int .u8 0,.int .u8 0,.int .u8 0,.int .u8 0,.int .u8 0,.int .u8 0,.int .u8 0,.int .u8 0,.int .u8 0,.int .u8 0] t fr|o=>o).push (.cells #[.int .u16 9,.int .u16 13,.int .u16 1,.int .u16 32,.int .u16 133,.int .u16 101,.int .u16 160,.int .u16 5760,.int .u16 5600,.int .u16 8192,.int .u16 8202,.int .u16 1,.int .u16 8232,.int .u16 8233,.int .u16 1,.int .u16 8239,.int .u16 8287,.int .u16 48,.int .u16 12288,.int .u16 12288,.int .u16 1] 441 (0,0))).push (.cells #[.slice (some ⟨B+0,0,none⟩) 7 7,.slice none 0 0,.int .i64 2] 438 (0,0)))}
theorem laid_met (os:Os) (args:Array Value):laidMetH Tryz.prog Rows.fnExactCertifiedRow.laid ((laidWorld os).forCall (λ_ _=>0) ⟨#[],args,[]⟩).memory:=laidMetH_of_parts (laidMet_of_run' 8 (by kernel_rfl) (by kernel_rfl)) (by kernel_rfl)
theorem lifted (os:Os) (a:os.Started) (H:Type) (enc:TypeId×Value->H):ReturnsInHanded {} Tryz.checked os 5 .any (λw args=>(Rows.fnExactCertifiedSpec.pre enc Tryz.prog Tryz.f5 [] false w args/\laidMetH Tryz.prog Rows.fnExactCertifiedRow.laid w)/\sizedMet enc Tryz.prog Tryz.f5 (OpenSpec.ofChange Rows.fnExactCertifiedSpec) false w args) (Rows.fnExactCertifiedSpec.post enc Tryz.prog Tryz.f5 false true false false):=by
 refine returnsInHanded_of_change_and (C:=Tryz.checked) (X:=λw _=>laidMetH Tryz.prog Rows.fnExactCertifiedRow.laid w) (λ_ _ _ S h=>h.of_heap S) own a (by kernel_rfl) Tryz.func5 (ChangeSpec.witness_shaped (enc:=enc) (C:=Tryz.checked) (os:=os) (X:=λw _=>laidMetH Tryz.prog Rows.fnExactCertifiedRow.laid w) false (laidWorld os) #[.agg #[.slice none 0 0,.slice none 0 0,.slice none 0 0,.slice none 0 0],.slice none 0 0] 8 rfl (World.shaped_of_RefB (by kernel_rfl) (by kernel_rfl)) (by kernel_rfl) (by kernel_rfl) (by kernel_rfl) (laid_met os _)) ?_
 intro W l args s A u d O _ m T _;have c:∀(j:Nat) t v,Tryz.f5.params[j]?=some t->args[j]?=some v->Value.okWide Tryz.prog W .any l t v:=d;have B:=O;obtain⟨p,q,D,E,rfl,U,V⟩:=O;have i:DataW.TrodAll enc Tryz.prog W 0 (λ_=>true) true Tryz.f5.params.toList args.toList s p:=D;have Q:DataW.TrodVars enc Tryz.prog W (λ_=>true) [] A q:=E;obtain⟨rfl,rfl⟩:A=[]/\q=[]:=by
  cases A with
  |nil=>exact⟨rfl,Q⟩
  |cons g r=>exact absurd Q (by intro h;cases h)
 have G:(DataW.weightsEach Tryz.prog [65,66] s).all (·<=reachBytes)=true:=by
  have h:(DataW.weightsEach Tryz.prog (Tryz.f5.params.toList++[]) (s++[])).all (·<=reachBytes)=true:=m;rw[Tryz.params5]at h;simpa using h
 rw[Tryz.params5]at i c;have i:DataW.TrodAll enc Tryz.prog W 0 (λ_=>true) true [65,66] args.toList s p:=i;obtain⟨x,Y,I⟩:=D2 (P:=Tryz.prog) [65,66] [(.cons (.sl false .str) (.cons (.sl false .str) (.cons (.sl false (.cons .str (.cons (.int .i64) .nil))) (.cons (.sl false (.cons (.int .i64) (.cons (.int .i64) (.cons (.sl false (.cons (.int .i64) (.cons (.int .i64) .nil))) (.cons (.sl false (.cons (.int .i64) (.cons (.int .i64) .nil))) (.cons (.int .i64) (.cons (.int .i64) .nil))))))) .nil)))),(.sl false (.cons (.sl false (.cons (.sl false (.cons (.int .i64) (.cons (.int .i64) .nil))) (.cons (.sl false (.cons .bool (.cons (.sl false (.cons (.int .i64) (.cons (.int .i64) .nil))) (.cons (.sl false (.cons (.int .i64) (.cons (.int .i64) .nil))) .nil)))) .nil))) .nil))] i rfl (by kernel_rfl) (λj t v Z hv=>c j t v (by simpa using Z) (by simpa using hv)) G;obtain⟨y,z,rfl⟩:=Mm (tQ _ i);obtain⟨J,K,M⟩:=F.Lb.needSp_of (w:=W) (Go.Lib.tabIs_of_head (rest:=[]) (g:=0) (t:=372) (e:=5) (n:=256) (by kernel_rfl) (by kernel_rfl) (by kernel_rfl) (by kernel_rfl) (by kernel_rfl) (by kernel_rfl) ((laidMetH_iff.1 (T.filter λx=>x.1== "strings.asciiSpace")).1));have R:=I7 (P:=Tryz.prog) (L:=J) (f:=5) (ks:=[(.cons (.sl false .str) (.cons (.sl false .str) (.cons (.sl false (.cons .str (.cons (.int .i64) .nil))) (.cons (.sl false (.cons (.int .i64) (.cons (.int .i64) (.cons (.sl false (.cons (.int .i64) (.cons (.int .i64) .nil))) (.cons (.sl false (.cons (.int .i64) (.cons (.int .i64) .nil))) (.cons (.int .i64) (.cons (.int .i64) .nil))))))) .nil)))),(.sl false (.cons (.sl false (.cons (.sl false (.cons (.int .i64) (.cons (.int .i64) .nil))) (.cons (.sl false (.cons .bool (.cons (.sl false (.cons (.int .i64) (.cons (.int .i64) .nil))) (.cons (.sl false (.cons (.int .i64) (.cons (.int .i64) .nil))) .nil)))) .nil))) .nil))]) (den:=F.KE) (λk=>F.KE.ok (F.Lb.NeedSp.mono K (by intro p hp;simp[hp])) k) (λx h=>F.nr x h) M Y I;rw[a6t]at R;refine R.mono λe W' ⟨he,o⟩=> ?_
 subst he;have N:(Rows.fnExactCertifiedSpec).fn H ([y,z]++[])= {results:=[.lit (.bool true)],args:=[y,z]}:=rfl;refine⟨_,rfl,[y,z],[],_,[],p,[],B,?_,?_,?_,o.frame _,λh=>by cases h⟩
 ·rw[N];exact trodAll_mk1 (shut_bool Tryz.underlying4 _)
 ·rw[N]
  show DataW.TrodAll enc Tryz.prog W' 0 (λb=>decide (b<W.heap.size)) true Tryz.f5.params.toList args.toList [y,z] p;rw[Tryz.params5];exact qP laidOut o [65,66] (by kernel_rfl) i
 ·rw[N];rfl
theorem over:Rows.fnExactCertifiedRow.holds Tryz.pinned (OpenSpec.ofChange Rows.fnExactCertifiedSpec):=OpenClaim.holds_of_wide 5 Tryz.f5 rfl rfl rfl rfl rfl rfl rfl ⟨rfl,rfl,rfl,rfl,rfl⟩ rfl rfl rfl rfl rfl (by kernel_rfl) Tryz.func5 jf
 (a0x (by kernel_rfl)) (by unfold Func.isWrapper;first|(rw[a0e (by decide+kernel)];kernel_rfl)|(rw[a0c (by decide+kernel)];exact⟨rfl,rfl⟩))
 (λos a H enc _=>lifted os a H enc)
theorem card_holds:Claim7.holds Tryz.pinned (.plain (OpenSpec.ofChange Rows.fnExactCertifiedSpec)) Rows.fnExactCertifiedCard:=Claim7.holds_tied_plain_at .later [] [.listed,.data] true (true,"a00fd0112d39b832c1aeb4cc39b2ccba2584884c09470c0818d4a2667a7121ea") false over (λ_ h=>by cases h) (by kernel_rfl) (λ_ h=>by cases h) fnExactCertified_row_tie rfl ⟨rfl,rfl⟩ jfm rfl
 (λf fn d b=>by
  obtain rfl:f=5:=a1h ((show Tryz.prog.funcNamed "loop.example/g00719/laws.FnExactCertified" =some 5 by kernel_rfl).symm.trans d)|>.symm;obtain rfl:fn=Tryz.f5:=(a1h (Tryz.func5.symm.trans b)).symm;exact⟨jfl,λj t c=>by
   rw[Tryz.params5]at c;have e:t∈[65,66]:=by simpa using Array.mem_of_getElem? c
   have a:([65,66]:List Nat).all (λt=> !Tryz.prog.wantsStandIn t)=true:=jfw;have:=a1e.1 a t e;exact(show Tryz.prog.wantsStandIn t=false by simpa using this)⟩)
 jfg
end Go.Proofs.YtjjmipjhddlncaaGreatDoor.fnExactCertified
namespace Go.Proofs.YtjjmipjhddlncaaGreatDoor
theorem FnExactCertified_holds:Rows.FnExactCertifiedCardSaid:=fnExactCertified.card_holds
#print axioms FnExactCertified_holds
end Go.Proofs.YtjjmipjhddlncaaGreatDoor
