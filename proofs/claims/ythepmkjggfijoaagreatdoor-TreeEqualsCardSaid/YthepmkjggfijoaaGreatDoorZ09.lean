/-
  A part of the proof.
-/
import Derived.Test.YthepmkjggfijoaaGreatDoorSA
import Derived.Test.YthepmkjggfijoaaGreatDoorS32
import Derived.Test.YthepmkjggfijoaaGreatDoorCards
import Derived.Test.YthepmkjggfijoaaGreatDoorZ08
set_option linter.all false
set_option maxRecDepth 100000
namespace Go.Proofs.YthepmkjggfijoaaGreatDoor
open Go.ChangeShapes Go.WideShapes Go.ChangeAt Go.RowKit Go.MapKept Go.ChangeMaps Mist
theorem aY (os:Os)(started:os.Started)(H:Type)(enc:TypeId × Value→H) :
  ReturnsInHanded {} Tryz.checked os 15 .any (fun w args=>(Rows.treeEqualsSpec.pre enc Tryz.prog Tryz.f15 [] false w args∧laidMetH Tryz.prog Rows.treeEqualsRow.laid w)∧sizedMet enc Tryz.prog Tryz.f15 (OpenSpec.ofChange Rows.treeEqualsSpec) false w args)
   (Rows.treeEqualsSpec.post enc Tryz.prog Tryz.f15 false true false false):=by
 refine returnsInHanded_of_change_and (C:=Tryz.checked) (X:=fun w _=>laidMetH Tryz.prog Rows.treeEqualsRow.laid w) (fun _ _ _ J h=>h.of_heap J) own_knob started (by kernel_rfl) Tryz.func15
  (ChangeSpec.witness_shaped (enc:=enc) (C:=Tryz.checked) (os:=os) (X:=fun w _=>laidMetH Tryz.prog Rows.treeEqualsRow.laid w) false (World.laidAll Tryz.prog os Rows.treeEqualsRow.laid) #[.agg #[.slice none 0 0,.slice none 0 0],.agg #[.slice none 0 0,.slice none 0 0]] 8 (World.laidAll_os _ _ _)
   (World.shaped_of_ZipB (by kernel_rfl) (by kernel_rfl)) (by kernel_rfl) (by kernel_rfl) (by kernel_rfl)
   (by rw [MakeChecks.laidMetH_plain _ _ _ (by kernel_rfl)];exact laidMet_laidAll _ (by kernel_rfl) (by kernel_rfl))) ?_
 intro W c args B V before b n _ d m _;rw [MakeChecks.laidMetH_plain _ _ _ (by kernel_rfl)] at m
 have F:Env W:=env_of_laid m (by simp [Rows.treeEqualsRow]);have a:∀ (j:Nat) t v,Tryz.f15.params[j]? = some t→args[j]? = some v→Value.okWide Tryz.prog W .any c t v:=b;have f:=n;obtain⟨p,q,Q,G,rfl,_,_⟩:=n;have l:DataW.TrodAll enc Tryz.prog W 0 (fun _=>true) true Tryz.f15.params.toList args.toList B p:=Q;rw [Tryz.params15] at l a
 obtain⟨N,P,T,U,Y,Z,rfl,rfl,rfl,h0,h1⟩:=trodAll_two l;obtain⟨rfl,rfl⟩:=trodVars_none G;obtain⟨o,u,y,D,R,L,rfl,g⟩:=tree_of_trod (j:=0) (a 0 26 N rfl rfl) h0 d (by rw [Tryz.params15];rfl) rfl;obtain⟨r,x,A,E,k,M,rfl,i⟩:=tree_of_trod (j:=1) (a 1 26 P rfl rfl) h1 d (by rw [Tryz.params15];rfl) rfl;have fin:=bF o u y D R L r x A E k M W F g i;refine fin.mono fun e S ⟨I,K⟩=>?_
 subst I;exact⟨_,rfl,post_true (t:=4) laid_out (by kernel_rfl) rfl (by kernel_rfl) bool_row rfl f K⟩
theorem bB:Rows.TreeEqualsSaid :=
 OpenClaim.holds_of_wide 15 Tryz.f15 rfl rfl rfl rfl rfl rfl rfl ⟨rfl,rfl,rfl,rfl,rfl⟩ rfl rfl rfl rfl rfl (by kernel_rfl) Tryz.func15 (by kernel_rfl)
  (of_decide_eq_true (by kernel_rfl)) (by unfold Func.isWrapper;first|(rw [if_pos (by decide +kernel)];kernel_rfl)|(rw [if_neg (by decide +kernel)];exact⟨rfl,rfl⟩))
  (fun os started H enc _=>aY os started H enc)
theorem equals_holds:Rows.TreeEqualsCardSaid :=
 Claim7.holds_tied_plain_at .later [] [.data, .data, .data, .sentinel, .sentinel, .listed, .data] true (true, "930e7ddc3c177b6ac6c34496cd3f8d07608127284058b89a41b68245be8bebb1") true bB (fun _ h => by cases h) (by kernel_rfl) (fun _ h => by cases h) treeEquals_row_tie rfl ⟨rfl, rfl⟩ (by kernel_rfl) rfl
  (fun f d e b=>by
   obtain rfl : f = 15 := aaP ((show Tryz.prog.funcNamed "mist/mistlaw03.TreeEquals" = some 15 by kernel_rfl).symm.trans e) |>.symm
   obtain rfl:d=Tryz.f15:=(aaP (Tryz.func15.symm.trans b)).symm
   exact⟨by kernel_rfl,fun j t c=>by
    rw [Tryz.params15] at c
    have g:t ∈ [26]:=by simpa using Array.mem_of_getElem? c
    have a:([26].all fun u=>!Tryz.prog.wantsStandIn u)=true:=by kernel_rfl
    exact (show Tryz.prog.wantsStandIn t=false by simpa using aaR.1 a t g)⟩)
  (by kernel_rfl)
end Go.Proofs.YthepmkjggfijoaaGreatDoor
