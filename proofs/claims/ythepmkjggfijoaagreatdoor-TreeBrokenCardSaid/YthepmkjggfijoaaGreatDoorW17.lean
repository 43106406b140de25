/-
  A part of the proof.
-/
import Derived.Test.YthepmkjggfijoaaGreatDoorSA
import Derived.Test.YthepmkjggfijoaaGreatDoorLS
import Derived.Test.YthepmkjggfijoaaGreatDoorCards
import Derived.Test.YthepmkjggfijoaaGreatDoorW10
import Derived.Test.YthepmkjggfijoaaGreatDoorW16
set_option linter.all false
set_option maxRecDepth 100000
namespace Go.Proofs.YthepmkjggfijoaaGreatDoor
open Go.ChangeShapes Go.WideShapes Go.ChangeAt Go.RowKit Go.MapKept Go.ChangeMaps Mist
theorem ND:Tryz.prog.underlying 43=some (.int .u16):=by kernel_rfl
theorem GK {H:Type}{enc:TypeId × Value→H}{W:World}{base:Nat}{v:Value}{d:DataW H}{ps:List MemPlace}
  (a:Value.okWide Tryz.prog W .any base 43 v) (h:DataW.Trod enc Tryz.prog W 0 (fun _=>true) true 43 v d ps):∃ x:Nat,v=.int .u16 x∧x < 65536:=by
 obtain⟨n,rfl⟩:=okWide_int ND a;obtain⟨c,f⟩:=h;obtain⟨k,g,i,b⟩:=DataW.trod_int ND f;have e:(Value.int .u16 n)=.int .u16 k:=by simpa [Value.cells] using g
 have j:0≤k∧k < 65536:=by
  simp [Lit.wf,IntKind.min,IntKind.max,IntKind.signed,IntKind.bits] at b
  omega
 obtain⟨k,rfl⟩:∃ m:Nat,k=m:=⟨k.toNat,by omega⟩;exact⟨k,e,by omega⟩
theorem DK (os:Os)(started:os.Started)(H:Type)(enc:TypeId × Value→H) :
  ReturnsInHanded {} Tryz.checked os 7 .any (fun w args=>(Rows.treeBrokenSpec.pre enc Tryz.prog Tryz.f7 [] false w args∧laidMetH Tryz.prog Rows.treeBrokenRow.laid w)∧sizedMet enc Tryz.prog Tryz.f7 (OpenSpec.ofChange Rows.treeBrokenSpec) false w args)
   (Rows.treeBrokenSpec.post enc Tryz.prog Tryz.f7 false true false false):=by
 refine returnsInHanded_of_change_and (C:=Tryz.checked) (X:=fun w _=>laidMetH Tryz.prog Rows.treeBrokenRow.laid w) (fun _ _ _ B h=>h.of_heap B) own_knob started (by kernel_rfl) Tryz.func7
  (ChangeSpec.witness_shaped (enc:=enc) (C:=Tryz.checked) (os:=os) (X:=fun w _=>laidMetH Tryz.prog Rows.treeBrokenRow.laid w) false (World.laidAll Tryz.prog os Rows.treeBrokenRow.laid) #[.slice none 0 0,.int .u16 0] 8 (World.laidAll_os _ _ _)
   (World.shaped_of_ZipB (by kernel_rfl) (by kernel_rfl)) (by kernel_rfl) (by kernel_rfl) (by kernel_rfl)
   (by rw [MakeChecks.laidMetH_plain _ _ _ (by kernel_rfl)];exact laidMet_laidAll _ (by kernel_rfl) (by kernel_rfl))) ?_
 intro W base args r M before b m _ g d _;rw [MakeChecks.laidMetH_plain _ _ _ (by kernel_rfl)] at d
 have u:Env W:=env_of_laid d (by simp [Rows.treeBrokenRow]);have a:∀ (j:Nat) t v,Tryz.f7.params[j]? = some t→args[j]? = some v→Value.okWide Tryz.prog W .any base t v:=b;have f:=m;obtain⟨p,q,c,y,rfl,_,_⟩:=m;have l:DataW.TrodAll enc Tryz.prog W 0 (fun _=>true) true Tryz.f7.params.toList args.toList r p:=c;rw [Tryz.params7] at l a
 obtain⟨n,G,K,L,N,p1,rfl,rfl,rfl,h0,h1⟩:=trodAll_two l;obtain⟨rfl,rfl⟩:=trodVars_none y;obtain⟨F,i,E⟩:=GD (j:=0) (a 0 42 n rfl rfl) h0 g (by rw [Tryz.params7];rfl) rfl;have x:Pow W:=JD d (by simp [Rows.treeBrokenRow]);obtain⟨I,rfl,k⟩:=GK (a 1 43 G rfl rfl) h1;have fin:=Kj F n I W u x i.seed k;refine fin.mono fun e J ⟨A,D⟩=>?_
 subst A;exact⟨_,rfl,post_true (t:=4) laid_out (by kernel_rfl) rfl (by kernel_rfl) bool_row rfl f D⟩
theorem Ht:Rows.TreeBrokenSaid :=
 OpenClaim.holds_of_wide 7 Tryz.f7 rfl rfl rfl rfl rfl rfl rfl ⟨rfl,rfl,rfl,rfl,rfl⟩ rfl rfl rfl rfl rfl (by kernel_rfl) Tryz.func7 (by kernel_rfl)
  (of_decide_eq_true (by kernel_rfl)) (by unfold Func.isWrapper;first|(rw [if_pos (by decide +kernel)];kernel_rfl)|(rw [if_neg (by decide +kernel)];exact⟨rfl,rfl⟩))
  (fun os started H enc _=>DK os started H enc)
theorem broken_holds:Rows.TreeBrokenCardSaid :=
 Claim7.holds_tied_plain_at .later [] [.data, .data, .data, .sentinel, .sentinel, .listed, .data] true (true, "930e7ddc3c177b6ac6c34496cd3f8d07608127284058b89a41b68245be8bebb1") true Ht (fun _ h => by cases h) (by kernel_rfl) (fun _ h => by cases h) treeBroken_row_tie rfl ⟨rfl, rfl⟩ (by kernel_rfl) rfl
  (fun f d e b=>by
   obtain rfl : f = 7 := aaP ((show Tryz.prog.funcNamed "mist/mistlaw03.TreeBroken" = some 7 by kernel_rfl).symm.trans e) |>.symm
   obtain rfl:d=Tryz.f7:=(aaP (Tryz.func7.symm.trans b)).symm
   exact⟨by kernel_rfl,fun j t c=>by
    rw [Tryz.params7] at c
    have g:t ∈ [42,43]:=by simpa using Array.mem_of_getElem? c
    have a:([42,43].all fun u=>!Tryz.prog.wantsStandIn u)=true:=by kernel_rfl
    exact (show Tryz.prog.wantsStandIn t=false by simpa using aaR.1 a t g)⟩)
  (by kernel_rfl)
end Go.Proofs.YthepmkjggfijoaaGreatDoor
