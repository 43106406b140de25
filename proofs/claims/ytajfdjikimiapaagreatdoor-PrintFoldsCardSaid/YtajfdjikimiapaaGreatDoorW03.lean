/-
  A part of the proof.
-/
import Derived.Test.YtajfdjikimiapaaGreatDoorCards
import Derived.Test.YtajfdjikimiapaaGreatDoorW02
set_option linter.all false
set_option maxRecDepth 100000
namespace Go.Proofs.YtajfdjikimiapaaGreatDoor
open Go.ChangeShapes Go.WideShapes Go.ChangeAt Go.RowKit Go.MapKept Go.ChangeMaps Mist
theorem aC (os:Os)(started:os.Started)(H:Type)(enc:TypeId × Value→H) :
  ReturnsInHanded {} Tryz.checked os 3 .any (fun w args=>(Rows.printFoldsSpec.pre enc Tryz.prog Tryz.f3 [] false w args∧laidMetH Tryz.prog Rows.printFoldsRow.laid w)∧sizedMet enc Tryz.prog Tryz.f3 (OpenSpec.ofChange Rows.printFoldsSpec) false w args)
   (Rows.printFoldsSpec.post enc Tryz.prog Tryz.f3 false true false false):=by
 refine returnsInHanded_of_change_and (C:=Tryz.checked) (X:=fun w _=>laidMetH Tryz.prog Rows.printFoldsRow.laid w) (fun _ _ _ K h=>h.of_heap K) ae1 started (by kernel_rfl) Tryz.func3
  (ChangeSpec.witness_shaped (enc:=enc) (C:=Tryz.checked) (os:=os) (X:=fun w _=>laidMetH Tryz.prog Rows.printFoldsRow.laid w) false (World.laidAll Tryz.prog os Rows.printFoldsRow.laid) #[.agg #[.slice none 0 0,.slice none 0 0],.int .i64 0,.int .i64 0] 8 (World.laidAll_os _ _ _)
   (World.shaped_of_ZipB (by kernel_rfl) (by kernel_rfl)) (by kernel_rfl) (by kernel_rfl) (by kernel_rfl)
   (by rw [MakeChecks.laidMetH_plain _ _ _ (by kernel_rfl)];exact laidMet_laidAll _ (by kernel_rfl) (by kernel_rfl))) ?_
 intro W c args D Z before b r _ m d _;rw [MakeChecks.laidMetH_plain _ _ _ (by kernel_rfl)] at d
 have F:Env W:=abG d (by simp [Rows.printFoldsRow]);have G:Pow W:=aa' d (by simp [Rows.printFoldsRow]);have a:∀ (j:Nat) t v,Tryz.f3.params[j]? = some t→args[j]? = some v→Value.okWide Tryz.prog W .any c t v:=b;have f:=r;obtain⟨p,q,N,I,rfl,_,_⟩:=r;have o:DataW.TrodAll enc Tryz.prog W 0 (fun _=>true) true Tryz.f3.params.toList args.toList D p:=N;rw [Tryz.params3] at o a
 obtain⟨Q,R,S,U,V,Y,p0,p1,p2,rfl,rfl,rfl,h0,h1,h2⟩:=trodAll_three o;obtain⟨rfl,rfl⟩:=trodVars_none I;obtain⟨y,A,B,E,P,M,rfl,n⟩:=abp (j:=0) (a 0 25 Q rfl rfl) h0 m (by rw [Tryz.params3];rfl) rfl;obtain⟨u,rfl,rfl,rfl,k⟩:=open_int (show Tryz.prog.underlying 3=some (.int .i64) by kernel_rfl) (a 1 3 R rfl rfl) h1;have g:Ar u:=by simp [Lit.wf,IntKind.min,IntKind.max,IntKind.signed,IntKind.bits] at k;unfold Ar;omega
 obtain⟨x,rfl,rfl,rfl,l⟩:=open_int (show Tryz.prog.underlying 3=some (.int .i64) by kernel_rfl) (a 2 3 S rfl rfl) h2;have i:Ar x:=by simp [Lit.wf,IntKind.min,IntKind.max,IntKind.signed,IntKind.bits] at l;unfold Ar;omega
 have fin:=aT y A B E P M u x W F G n g i;refine fin.mono fun e T ⟨J,L⟩=>?_
 subst J;exact⟨_,rfl,adz (t:=4) aeQ (by kernel_rfl) rfl (by kernel_rfl) ad2 rfl f L⟩
