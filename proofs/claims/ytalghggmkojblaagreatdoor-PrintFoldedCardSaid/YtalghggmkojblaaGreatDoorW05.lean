/-
  A part of the proof.
-/
import Derived.Test.YtalghggmkojblaaGreatDoorSA
import Derived.Test.YtalghggmkojblaaGreatDoorTie
import Derived.Test.YtalghggmkojblaaGreatDoorCards
import Derived.Test.YtalghggmkojblaaGreatDoorW02
set_option linter.all false
set_option maxRecDepth 100000
namespace Go.Proofs.YtalghggmkojblaaGreatDoor
theorem aR:(Rows.printFoldedRow.inPlace == Tryz.prog.inPlace 3)=true:=by kernel_rfl
theorem aS:(Rows.printFoldedRow.unfollowed == Tryz.prog.unfollowed 3)=true:=by kernel_rfl
theorem aT:(Rows.printFoldedRow.recurses == Tryz.prog.recurses 3)=true:=by kernel_rfl
theorem bg:(Rows.printFoldedRow.named == Tryz.prog.varsNamed 3)=true:=by kernel_rfl
theorem bA:laidOutB Tryz.prog=true:=by kernel_rfl
theorem bB:mapsRowed Tryz.prog=true:=by kernel_rfl
theorem bC:(Tryz.prog.stops == [])=true:=by kernel_rfl
theorem bE:(Tryz.prog.stopKnobs == [])=true:=by kernel_rfl
theorem bF:(Rows.printFoldedRow.lifted == Tryz.prog.liftsFinal)=true:=by kernel_rfl
theorem bK:(Rows.printFoldedRow.plainKeys == Tryz.prog.plainKeys)=true:=by kernel_rfl
theorem bL:Tryz.prog.stopsHeard=true:=by kernel_rfl
theorem bN:Tryz.prog.mayEnter=true:=by kernel_rfl
theorem bO:(Tryz.prog.make == some Rows.printFoldedRow.make)=true:=by kernel_rfl
theorem bP:Rows.printFoldedRow.wf (OpenSpec.ofChange Rows.printFoldedSpec)=true:=by kernel_rfl
theorem bX:joinedFacts Tryz.prog 3 Tryz.f3 Rows.printFoldedSpec Rows.printFoldedRow=true:=by
 unfold joinedFacts;rw [aR,aS,aT,bg,bA,bB,bC,bE,bF,bK,bL,bN,bO,bP]
 kernel_rfl
theorem ay : Tryz.prog.funcNamed "mist/mistlaw04.PrintFolded" = some 3 := by kernel_rfl
theorem aJ:Rows.printFoldedRow.wfByText (OpenSpec.ofChange Rows.printFoldedSpec)=true:=by kernel_rfl
theorem aK : Tryz.prog.mainIs = some (true, "37771bef013ded14238ee0ae1b80235ed31ebbe07e88fc8a0dd885d816b78f81".toList) := by kernel_rfl
theorem aL:true=Tryz.prog.looks []:=by kernel_rfl
theorem aP:false=Rows.printFoldedRow.goesBy Tryz.prog:=by kernel_rfl
end Go.Proofs.YtalghggmkojblaaGreatDoor
namespace Go.Proofs.YtalghggmkojblaaGreatDoor
open Go.ChangeShapes Go.WideShapes Go.ChangeAt Go.RowKit Go.MapKept Go.ChangeMaps Mist
theorem aA (os:Os)(started:os.Started)(H:Type)(enc:TypeId × Value→H) :
  ReturnsInHanded {} Tryz.checked os 3 .any (fun w args=>(Rows.printFoldedSpec.pre enc Tryz.prog Tryz.f3 [] false w args∧laidMetH Tryz.prog Rows.printFoldedRow.laid w)∧sizedMet enc Tryz.prog Tryz.f3 (OpenSpec.ofChange Rows.printFoldedSpec) false w args)
   (Rows.printFoldedSpec.post enc Tryz.prog Tryz.f3 false true false false):=by
 refine returnsInHanded_of_change_and (C:=Tryz.checked) (X:=fun w _=>laidMetH Tryz.prog Rows.printFoldedRow.laid w) (fun _ _ _ B h=>h.of_heap B) aiT started (by kernel_rfl) Tryz.func3
  (ChangeSpec.witness_shaped (enc:=enc) (C:=Tryz.checked) (os:=os) (X:=fun w _=>laidMetH Tryz.prog Rows.printFoldedRow.laid w) false (World.laidAll Tryz.prog os Rows.printFoldedRow.laid) #[.slice none 0 0,.agg #[.int .u8 0,.int .u8 0]] 8 (World.laidAll_os _ _ _)
   (World.shaped_of_ZipB (by kernel_rfl) (by kernel_rfl)) (by kernel_rfl) (by kernel_rfl) (by kernel_rfl)
   (by rw [MakeChecks.laidMetH_plain _ _ _ (by kernel_rfl)];exact laidMet_laidAll _ (by kernel_rfl) (by kernel_rfl))) ?_
 intro W base args r P before b m _ f c _;rw [MakeChecks.laidMetH_plain _ _ _ (by kernel_rfl)] at c
 have u:Env W:=afv c (by simp [Rows.printFoldedRow]);have x:Pow W:=aeY c (by simp [Rows.printFoldedRow]);have a:∀ (j:Nat) t v,Tryz.f3.params[j]? = some t→args[j]? = some v→Value.okWide Tryz.prog W .any base t v:=b;have d:=m;obtain⟨p,q,G,y,rfl,_,_⟩:=m;have l:DataW.TrodAll enc Tryz.prog W 0 (fun _=>true) true Tryz.f3.params.toList args.toList r p:=G;rw [Tryz.params3] at l a
 obtain⟨n,I,M,N,Q,p1,rfl,rfl,rfl,h0,h1⟩:=trodAll_two l;obtain⟨rfl,rfl⟩:=trodVars_none y;obtain⟨F,g,E⟩:=ae4 (j:=0) (a 0 23 n rfl rfl) h0 f (by rw [Tryz.params3];rfl) rfl;obtain⟨J,K,rfl,i,k⟩:=aeQ (a 1 24 I rfl rfl) h1;have fin:=aD F n J K W u x g.seed i k;refine fin.mono fun e L ⟨A,D⟩=>?_
 subst A;exact⟨_,rfl,ahe (t:=4) aiC (by kernel_rfl) rfl (by kernel_rfl) ahE rfl d D⟩
end Go.Proofs.YtalghggmkojblaaGreatDoor
namespace Go.Proofs.YtalghggmkojblaaGreatDoor
open Go.ChangeShapes Go.WideShapes Go.ChangeAt Go.RowKit Go.MapKept Go.ChangeMaps Mist
theorem aC:Rows.PrintFoldedSaid :=
 OpenClaim.holds_of_wide 3 Tryz.f3 rfl rfl rfl rfl rfl rfl rfl ⟨rfl,rfl,rfl,rfl,rfl⟩ rfl rfl rfl rfl rfl ay Tryz.func3 bX
  (of_decide_eq_true (by kernel_rfl)) (by unfold Func.isWrapper;first|(rw [if_pos (by decide +kernel)];kernel_rfl)|(rw [if_neg (by decide +kernel)];exact⟨rfl,rfl⟩))
  (fun os started H enc _=>aA os started H enc)
theorem pfolded_holds:Rows.PrintFoldedCardSaid :=
 Claim7.holds_tied_plain_at .later [] [.data, .data, .data, .sentinel, .sentinel, .listed, .data] true (true, "37771bef013ded14238ee0ae1b80235ed31ebbe07e88fc8a0dd885d816b78f81") true aC (fun _ h => by cases h) aJ (fun _ h => by cases h) printFolded_row_tie rfl ⟨rfl, rfl⟩ aK rfl
  (fun f d e b=>by
   obtain rfl:f=3:=amR (ay.symm.trans e) |>.symm
   obtain rfl:d=Tryz.f3:=(amR (Tryz.func3.symm.trans b)).symm
   exact⟨aL,fun j t c=>by
    rw [Tryz.params3] at c
    have g:t ∈ [23,24]:=by simpa using Array.mem_of_getElem? c
    have a:([23,24].all fun u=>!Tryz.prog.wantsStandIn u)=true:=by kernel_rfl
    exact (show Tryz.prog.wantsStandIn t=false by simpa using amT.1 a t g)⟩)
  aP
