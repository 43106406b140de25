/-
  A part of the proof.
-/
import Derived.Test.YtajfdjikimiapaaGreatDoorCards
import Derived.Test.YtajfdjikimiapaaGreatDoorV03
set_option linter.all false
set_option maxRecDepth 100000
namespace Go.Proofs.YtajfdjikimiapaaGreatDoor
open Go.ChangeShapes Go.WideShapes Go.ChangeAt Go.RowKit Go.MapKept Go.ChangeMaps Mist
theorem aT (os:Os)(started:os.Started)(H:Type)(enc:TypeId × Value→H) :
  ReturnsInHanded {} Tryz.checked os 4 .any (fun w args=>(Rows.printTextsSpec.pre enc Tryz.prog Tryz.f4 [] false w args∧laidMetH Tryz.prog Rows.printTextsRow.laid w)∧sizedMet enc Tryz.prog Tryz.f4 (OpenSpec.ofChange Rows.printTextsSpec) false w args)
   (Rows.printTextsSpec.post enc Tryz.prog Tryz.f4 false true false false):=by
 refine returnsInHanded_of_change_and (C:=Tryz.checked) (X:=fun w _=>laidMetH Tryz.prog Rows.printTextsRow.laid w) (fun _ _ _ J h=>h.of_heap J) ae1 started (by kernel_rfl) Tryz.func4
  (ChangeSpec.witness_shaped (enc:=enc) (C:=Tryz.checked) (os:=os) (X:=fun w _=>laidMetH Tryz.prog Rows.printTextsRow.laid w) false (World.laidAll Tryz.prog os Rows.printTextsRow.laid) #[.agg #[.slice none 0 0,.slice none 0 0],.int .i64 0] 8 (World.laidAll_os _ _ _)
   (World.shaped_of_ZipB (by kernel_rfl) (by kernel_rfl)) (by kernel_rfl) (by kernel_rfl) (by kernel_rfl)
   (by rw [MakeChecks.laidMetH_plain _ _ _ (by kernel_rfl)];exact laidMet_laidAll _ (by kernel_rfl) (by kernel_rfl))) ?_
 intro W c args B S before b n _ k d _;rw [MakeChecks.laidMetH_plain _ _ _ (by kernel_rfl)] at d
 have E:Env W:=abG d (by simp [Rows.printTextsRow]);have F:Pow W:=aa' d (by simp [Rows.printTextsRow]);have a:∀ (j:Nat) t v,Tryz.f4.params[j]? = some t→args[j]? = some v→Value.okWide Tryz.prog W .any c t v:=b;have f:=n;obtain⟨p,q,u,G,rfl,_,_⟩:=n;have m:DataW.TrodAll enc Tryz.prog W 0 (fun _=>true) true Tryz.f4.params.toList args.toList B p:=u;rw [Tryz.params4] at m a
 obtain⟨L,M,Q,R,T,U,rfl,rfl,rfl,h0,h1⟩:=trodAll_two m;obtain⟨rfl,rfl⟩:=trodVars_none G;obtain⟨r,y,A,D,x,N,rfl,l⟩:=abp (j:=0) (a 0 25 L rfl rfl) h0 k (by rw [Tryz.params4];rfl) rfl;obtain⟨o,rfl,rfl,rfl,i⟩:=open_int (show Tryz.prog.underlying 3=some (.int .i64) by kernel_rfl) (a 1 3 M rfl rfl) h1;have g:Ar o:=by simp [Lit.wf,IntKind.min,IntKind.max,IntKind.signed,IntKind.bits] at i;unfold Ar;omega
 have fin:=bV r y A D x N o W E F l g;refine fin.mono fun e P ⟨I,K⟩=>?_
 subst I;exact⟨_,rfl,adz (t:=4) aeQ (by kernel_rfl) rfl (by kernel_rfl) ad2 rfl f K⟩
