/-
  A part of the proof.
-/
import Derived.Test.YthepmkjggfijoaaGreatDoorSA
import Derived.Test.YthepmkjggfijoaaGreatDoorS32
import Derived.Test.YthepmkjggfijoaaGreatDoorCards
import Derived.Test.YthepmkjggfijoaaGreatDoorL10
import Derived.Test.YthepmkjggfijoaaGreatDoorL18
set_option linter.all false
set_option maxRecDepth 100000
namespace Go.Proofs.YthepmkjggfijoaaGreatDoor
open Go.ChangeShapes Go.WideShapes Go.ChangeAt Go.RowKit Go.MapKept Go.ChangeMaps Mist
theorem Ht (os:Os)(started:os.Started)(H:Type)(enc:TypeId × Value→H) :
  ReturnsInHanded {} Tryz.checked os 10 .any (fun w args=>(Rows.treeOwnSpec.pre enc Tryz.prog Tryz.f10 [] false w args∧laidMetH Tryz.prog Rows.treeOwnRow.laid w)∧sizedMet enc Tryz.prog Tryz.f10 (OpenSpec.ofChange Rows.treeOwnSpec) false w args)
   (Rows.treeOwnSpec.post enc Tryz.prog Tryz.f10 false true false false):=by
 refine returnsInHanded_of_change_and (C:=Tryz.checked) (X:=fun w _=>laidMetH Tryz.prog Rows.treeOwnRow.laid w) (fun _ _ _ A h=>h.of_heap A) own_knob started (by kernel_rfl) Tryz.func10
  (ChangeSpec.witness_shaped (enc:=enc) (C:=Tryz.checked) (os:=os) (X:=fun w _=>laidMetH Tryz.prog Rows.treeOwnRow.laid w) false (World.laidAll Tryz.prog os Rows.treeOwnRow.laid) #[.slice none 0 0] 8 (World.laidAll_os _ _ _)
   (World.shaped_of_ZipB (by kernel_rfl) (by kernel_rfl)) (by kernel_rfl) (by kernel_rfl) (by kernel_rfl)
   (by rw [MakeChecks.laidMetH_plain _ _ _ (by kernel_rfl)];exact laidMet_laidAll _ (by kernel_rfl) (by kernel_rfl))) ?_
 intro W base args n I before b l _ g d _;rw [MakeChecks.laidMetH_plain _ _ _ (by kernel_rfl)] at d
 have r:Env W:=env_of_laid d (by simp [Rows.treeOwnRow]);have a:∀ (j:Nat) t v,Tryz.f10.params[j]? = some t→args[j]? = some v→Value.okWide Tryz.prog W .any base t v:=b;have f:=l;obtain⟨p,q,c,x,rfl,_,_⟩:=l;have k:DataW.TrodAll enc Tryz.prog W 0 (fun _=>true) true Tryz.f10.params.toList args.toList n p:=c;rw [Tryz.params10] at k a
 obtain⟨m,G,rfl,rfl,h0⟩:=trodAll_one k;obtain⟨rfl,rfl⟩:=trodVars_none x;obtain⟨E,i,D⟩:=DJ (j:=0) (a 0 42 m rfl rfl) h0 g (by rw [Tryz.params10];rfl) rfl;have u:Pow W:=F8 d (by simp [Rows.treeOwnRow]);have fin:=UJ E m W r u i.seed;refine fin.mono fun e F ⟨y,B⟩=>?_
 subst y;exact⟨_,rfl,post_true (t:=4) laid_out (by kernel_rfl) rfl (by kernel_rfl) bool_row rfl f B⟩
theorem Rf:Rows.TreeOwnSaid :=
 OpenClaim.holds_of_wide 10 Tryz.f10 rfl rfl rfl rfl rfl rfl rfl ⟨rfl,rfl,rfl,rfl,rfl⟩ rfl rfl rfl rfl rfl (by kernel_rfl) Tryz.func10 (by kernel_rfl)
  (of_decide_eq_true (by kernel_rfl)) (by unfold Func.isWrapper;first|(rw [if_pos (by decide +kernel)];kernel_rfl)|(rw [if_neg (by decide +kernel)];exact⟨rfl,rfl⟩))
  (fun os started H enc _=>Ht os started H enc)
theorem own_holds:Rows.TreeOwnCardSaid :=
 Claim7.holds_tied_plain_at .later [] [.data, .data, .data, .sentinel, .sentinel, .listed, .data] true (true, "930e7ddc3c177b6ac6c34496cd3f8d07608127284058b89a41b68245be8bebb1") true Rf (fun _ h => by cases h) (by kernel_rfl) (fun _ h => by cases h) treeOwn_row_tie rfl ⟨rfl, rfl⟩ (by kernel_rfl) rfl
  (fun f d e b=>by
   obtain rfl : f = 10 := aaP ((show Tryz.prog.funcNamed "mist/mistlaw03.TreeOwn" = some 10 by kernel_rfl).symm.trans e) |>.symm
   obtain rfl:d=Tryz.f10:=(aaP (Tryz.func10.symm.trans b)).symm
   exact⟨by kernel_rfl,fun j t c=>by
    rw [Tryz.params10] at c
    have g:t ∈ [42]:=by simpa using Array.mem_of_getElem? c
    have a:([42].all fun u=>!Tryz.prog.wantsStandIn u)=true:=by kernel_rfl
    exact (show Tryz.prog.wantsStandIn t=false by simpa using aaR.1 a t g)⟩)
  (by kernel_rfl)
end Go.Proofs.YthepmkjggfijoaaGreatDoor
