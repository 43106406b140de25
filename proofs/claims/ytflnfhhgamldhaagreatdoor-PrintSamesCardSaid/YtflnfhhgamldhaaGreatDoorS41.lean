/-
  A part of the proof.
-/
import Derived.Test.YtflnfhhgamldhaaGreatDoorCards
import Derived.Test.YtflnfhhgamldhaaGreatDoorS40
set_option linter.all false
set_option maxRecDepth 100000
namespace Go.Proofs.YtflnfhhgamldhaaGreatDoor
open Go.ChangeShapes Go.WideShapes Go.ChangeAt Go.RowKit Go.MapKept Go.ChangeMaps Mist
theorem Gc (os:Os)(started:os.Started)(H:Type)(enc:TypeId × Value→H) :
  ReturnsInHanded {} Tryz.checked os 3 .any (fun w args=>(Rows.printSamesSpec.pre enc Tryz.prog Tryz.f3 [] false w args∧laidMetH Tryz.prog Rows.printSamesRow.laid w)∧sizedMet enc Tryz.prog Tryz.f3 (OpenSpec.ofChange Rows.printSamesSpec) false w args)
   (Rows.printSamesSpec.post enc Tryz.prog Tryz.f3 false true false false):=by
 refine returnsInHanded_of_change_and (C:=Tryz.checked) (X:=fun w _=>laidMetH Tryz.prog Rows.printSamesRow.laid w) (fun _ _ _ A h=>h.of_heap A) aan started (by kernel_rfl) Tryz.func3
  (ChangeSpec.witness_shaped (enc:=enc) (C:=Tryz.checked) (os:=os) (X:=fun w _=>laidMetH Tryz.prog Rows.printSamesRow.laid w) false (World.laidAll Tryz.prog os Rows.printSamesRow.laid) #[.string ⟨#[]⟩,.string ⟨#[]⟩] 8 (World.laidAll_os _ _ _)
   (World.shaped_of_ZipB (by kernel_rfl) (by kernel_rfl)) (by kernel_rfl) (by kernel_rfl) (by kernel_rfl)
   (by rw [MakeChecks.laidMetH_plain _ _ _ (by kernel_rfl)];exact laidMet_laidAll _ (by kernel_rfl) (by kernel_rfl))) ?_
 intro W base args o M before b n _ E g _;rw [MakeChecks.laidMetH_plain _ _ _ (by kernel_rfl)] at g
 have r:Env W:=K_ g (by simp [Rows.printSamesRow]);have u:Pow W:=JO g (by simp [Rows.printSamesRow]);have a:∀ (j:Nat) t v,Tryz.f3.params[j]? = some t→args[j]? = some v→Value.okWide Tryz.prog W .any base t v:=b;have i:=n;obtain⟨p,q,f,x,rfl,_,_⟩:=n;have m:DataW.TrodAll enc Tryz.prog W 0 (fun _=>true) true Tryz.f3.params.toList args.toList o p:=f;rw [Tryz.params3] at m a
 obtain⟨G,I,K,L,N,p1,rfl,rfl,rfl,h0,h1⟩:=trodAll_two m;obtain⟨rfl,rfl⟩:=trodVars_none x;obtain⟨k,rfl,rfl,rfl,B⟩:=open_string (show Tryz.prog.underlying 9=some .string by kernel_rfl) (a 0 9 G rfl rfl) h0;obtain⟨l,rfl,rfl,rfl,D⟩:=open_string (show Tryz.prog.underlying 9=some .string by kernel_rfl) (a 1 9 I rfl rfl) h1;have c:ByteArray.mk k.data=aH k.data.toList:=by simp [aH]
 have d:ByteArray.mk l.data=aH l.data.toList:=by simp [aH]
 have fin:=Qz k.data.toList l.data.toList W r u;rw [← c] at fin
 rw [← d] at fin
 refine fin.mono fun e J ⟨y,F⟩=>?_
 subst y;exact⟨_,rfl,Vl (t:=4) ZU (by kernel_rfl) rfl (by kernel_rfl) YG rfl i F⟩
