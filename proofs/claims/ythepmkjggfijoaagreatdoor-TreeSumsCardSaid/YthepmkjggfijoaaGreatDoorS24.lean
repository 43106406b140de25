/-
  A part of the proof.
-/
import Derived.Test.YthepmkjggfijoaaGreatDoorSA
import Derived.Deep.Cut
import Derived.Deep.RegionHeld3
import Derived.Deep.RegionWith
import Derived.Test.YthepmkjggfijoaaGreatDoorS22
set_option linter.all false
set_option maxRecDepth 100000
set_option maxHeartbeats 4000000
open Go.Lib (hid)
namespace Go.Proofs.YthepmkjggfijoaaGreatDoor
open Go.RowKit Mist
attribute [local go_sem] aj aH aS aB ak
theorem WG (x:Bs)(n a:Int)(Ak:Option Addr)(nk ck:Nat)(w:World):Calls Tryz.prog 103 #[.agg #[.int .u8 21,.string (aM x),.int .i64 n,.slice Ak nk ck,.int .i64 a]] w (eB (Mist.shapeOf 21 n) w):=by
 go_in
 go_wp2_with fail;refine (aG _ _).mono ?_;rintro e w1⟨rfl,hb1⟩;go_wp2_with fail;refine (aG _ _).mono ?_;rintro e w2⟨rfl,hb2⟩;go_wp2_with fail;refine (aG _ _).mono ?_;rintro e w3⟨rfl,hb3⟩;have HF:=hid (fP hb1 hb2 hb3);have hz:=HF.out.1;clear hb1 hb2 hb3;go_upto_region 5 with (fail)
 obtain⟨w5,hw,cu,iU,jO,vS,hs7,Dv,-,-,-,lG,-⟩:=HF.out.2;rw [hw];clear hw hz HF;have o0:=lG.out.cell 0;have o1:=lG.out.cell 1;have o2:=lG.out.cell 2;have Uk:=lG.out.lt;have p0:=iU.out.cell 0;have p2:=iU.out.cell 2;have q0:=cu.out.cell 0;have q1:=cu.out.cell 1;have q2:=cu.out.cell 2;have q3:=cu.out.cell 3;have r0:=cu.out.frozen 0;have r1:=cu.out.frozen 1;have r2:=cu.out.frozen 2;have r3:=cu.out.frozen 3;go_wp2_with fail;refine (mZ _ _ _ _).mono ?_;rintro e w6⟨rfl,hb6⟩;have HQ:=hid (gF hb6);have dA:=hid (show aC w6 (w.heap.size+1) 119 #[.bool false,.int .i64 0,.int .i64 0,.slice none 0 0] from aC.below (by repeat (first|(with_reducible exact cu.out)|(with_reducible refine aC.alloc ?_ _))) hb6 (by first | omega|(simp;omega)));have kT:=hid (show Below w.heap.size w w6 from Below.trans (by repeat (first|(with_reducible exact jO.out)|(with_reducible refine dx ?_ ?_)|(with_reducible refine ah ?_ ?_) | omega|(simp;omega))) (hb6.mono (by first | omega|(simp;omega))));clear hb6;clear q0 q1 q2 q3 r0 r1 r2 r3;have q0:=dA.out.cell 0;have q1:=dA.out.cell 1;have q2:=dA.out.cell 2;have q3:=dA.out.cell 3;have r0:=dA.out.frozen 0;have r1:=dA.out.frozen 1;have r2:=dA.out.frozen 2;have r3:=dA.out.frozen 3;go_wp2_with fail;refine bodyPost_ret (v:=.tuple #[.agg #[.bool true,.int .i64 0,.int .i64 0,.slice (some ⟨w5.heap.size,0,none⟩) 1 1],.bool true]) (by simp [results,Tryz.f103,go_sem,q0,q1,q2,q3]) rfl ?_
 refine⟨_,_,_,_,_,_,_,rfl,?_,rfl,rfl,rfl,rfl,rfl,aaJ _,?_⟩
 ·repeat (first|(with_reducible exact kT.out)|(with_reducible refine dx ?_ ?_)|(with_reducible refine ah ?_ ?_) | omega|(simp;omega))
 ·refine dS.one (T:=152) ?_
  repeat (first|(with_reducible refine aC.far ?_ ?_ _) | exact HQ.out|(simp;omega))
theorem WH (x:Bs)(n a:Int)(Ak:Option Addr)(nk ck:Nat)(w:World):Calls Tryz.prog 103 #[.agg #[.int .u8 22,.string (aM x),.int .i64 n,.slice Ak nk ck,.int .i64 a]] w (eB (Mist.shapeOf 22 n) w):=by
 go_in
 go_wp2_with fail;refine (aG _ _).mono ?_;rintro e w1⟨rfl,hb1⟩;go_wp2_with fail;refine (aG _ _).mono ?_;rintro e w2⟨rfl,hb2⟩;go_wp2_with fail;refine (aG _ _).mono ?_;rintro e w3⟨rfl,hb3⟩;have HF:=hid (fP hb1 hb2 hb3);have hz:=HF.out.1;clear hb1 hb2 hb3;go_upto_region 5 with (fail)
 obtain⟨w5,hw,cu,iU,jO,vS,hs7,Dv,lG,-,-,-,-⟩:=HF.out.2;rw [hw];clear hw hz HF;have o0:=lG.out.cell 0;have o1:=lG.out.cell 1;have o2:=lG.out.cell 2;have Uk:=lG.out.lt;have p0:=iU.out.cell 0;have p2:=iU.out.cell 2;have q0:=cu.out.cell 0;have q1:=cu.out.cell 1;have q2:=cu.out.cell 2;have q3:=cu.out.cell 3;have r0:=cu.out.frozen 0;have r1:=cu.out.frozen 1;have r2:=cu.out.frozen 2;have r3:=cu.out.frozen 3;go_wp2_with fail;refine (mZ _ _ _ _).mono ?_;rintro e w6⟨rfl,hb6⟩;have HQ:=hid (gF hb6);have dA:=hid (show aC w6 (w.heap.size+1) 119 #[.bool false,.int .i64 0,.int .i64 0,.slice none 0 0] from aC.below (by repeat (first|(with_reducible exact cu.out)|(with_reducible refine aC.alloc ?_ _))) hb6 (by first | omega|(simp;omega)));have kT:=hid (show Below w.heap.size w w6 from Below.trans (by repeat (first|(with_reducible exact jO.out)|(with_reducible refine dx ?_ ?_)|(with_reducible refine ah ?_ ?_) | omega|(simp;omega))) (hb6.mono (by first | omega|(simp;omega))));clear hb6;clear q0 q1 q2 q3 r0 r1 r2 r3;have q0:=dA.out.cell 0;have q1:=dA.out.cell 1;have q2:=dA.out.cell 2;have q3:=dA.out.cell 3;have r0:=dA.out.frozen 0;have r1:=dA.out.frozen 1;have r2:=dA.out.frozen 2;have r3:=dA.out.frozen 3;go_wp2_with fail;refine bodyPost_ret (v:=.tuple #[.agg #[.bool true,.int .i64 0,.int .i64 0,.slice (some ⟨w5.heap.size,0,none⟩) 1 1],.bool true]) (by simp [results,Tryz.f103,go_sem,q0,q1,q2,q3]) rfl ?_
 refine⟨_,_,_,_,_,_,_,rfl,?_,rfl,rfl,rfl,rfl,rfl,aaJ _,?_⟩
 ·repeat (first|(with_reducible exact kT.out)|(with_reducible refine dx ?_ ?_)|(with_reducible refine ah ?_ ?_) | omega|(simp;omega))
 ·refine dS.one (T:=152) ?_
  repeat (first|(with_reducible refine aC.far ?_ ?_ _) | exact HQ.out|(simp;omega))
theorem WK (x:Bs)(n a:Int)(Ak:Option Addr)(nk ck:Nat)(w:World):Calls Tryz.prog 103 #[.agg #[.int .u8 25,.string (aM x),.int .i64 n,.slice Ak nk ck,.int .i64 a]] w (eB (Mist.shapeOf 25 n) w):=by
 go_in
 go_wp2_with fail;refine (aG _ _).mono ?_;rintro e w1⟨rfl,hb1⟩;go_wp2_with fail;refine (aG _ _).mono ?_;rintro e w2⟨rfl,hb2⟩;go_wp2_with fail;refine (aG _ _).mono ?_;rintro e w3⟨rfl,hb3⟩;have HF:=hid (fP hb1 hb2 hb3);have hz:=HF.out.1;clear hb1 hb2 hb3;go_upto_region 5 with (fail)
 obtain⟨w5,hw,cu,iU,jO,vS,hs7,Dv,lG,-,-,-,-⟩:=HF.out.2;rw [hw];clear hw hz HF;have o0:=lG.out.cell 0;have o1:=lG.out.cell 1;have o2:=lG.out.cell 2;have Uk:=lG.out.lt;have p0:=iU.out.cell 0;have p2:=iU.out.cell 2;have q0:=cu.out.cell 0;have q1:=cu.out.cell 1;have q2:=cu.out.cell 2;have q3:=cu.out.cell 3;have r0:=cu.out.frozen 0;have r1:=cu.out.frozen 1;have r2:=cu.out.frozen 2;have r3:=cu.out.frozen 3;go_wp2_with fail;refine (mZ _ _ _ _).mono ?_;rintro e w6⟨rfl,hb6⟩;have HQ:=hid (gF hb6);have dA:=hid (show aC w6 (w.heap.size+1) 119 #[.bool false,.int .i64 0,.int .i64 0,.slice none 0 0] from aC.below (by repeat (first|(with_reducible exact cu.out)|(with_reducible refine aC.alloc ?_ _))) hb6 (by first | omega|(simp;omega)));have kT:=hid (show Below w.heap.size w w6 from Below.trans (by repeat (first|(with_reducible exact jO.out)|(with_reducible refine dx ?_ ?_)|(with_reducible refine ah ?_ ?_) | omega|(simp;omega))) (hb6.mono (by first | omega|(simp;omega))));clear hb6;clear q0 q1 q2 q3 r0 r1 r2 r3;have q0:=dA.out.cell 0;have q1:=dA.out.cell 1;have q2:=dA.out.cell 2;have q3:=dA.out.cell 3;have r0:=dA.out.frozen 0;have r1:=dA.out.frozen 1;have r2:=dA.out.frozen 2;have r3:=dA.out.frozen 3;go_wp2_with fail;refine bodyPost_ret (v:=.tuple #[.agg #[.bool true,.int .i64 0,.int .i64 0,.slice (some ⟨w5.heap.size,0,none⟩) 1 1],.bool true]) (by simp [results,Tryz.f103,go_sem,q0,q1,q2,q3]) rfl ?_
 refine⟨_,_,_,_,_,_,_,rfl,?_,rfl,rfl,rfl,rfl,rfl,aaJ _,?_⟩
 ·repeat (first|(with_reducible exact kT.out)|(with_reducible refine dx ?_ ?_)|(with_reducible refine ah ?_ ?_) | omega|(simp;omega))
 ·refine dS.one (T:=152) ?_
  repeat (first|(with_reducible refine aC.far ?_ ?_ _) | exact HQ.out|(simp;omega))
theorem WW (x:Bs)(n a:Int)(Ak:Option Addr)(nk ck:Nat)(w:World):Calls Tryz.prog 103 #[.agg #[.int .u8 43,.string (aM x),.int .i64 n,.slice Ak nk ck,.int .i64 a]] w (eB (Mist.shapeOf 43 n) w):=by
 go_in
 go_wp2_with fail;refine (aG _ _).mono ?_;rintro e w1⟨rfl,hb1⟩;go_wp2_with fail;refine (aG _ _).mono ?_;rintro e w2⟨rfl,hb2⟩;go_wp2_with fail;refine (aG _ _).mono ?_;rintro e w3⟨rfl,hb3⟩;have HF:=hid (fP hb1 hb2 hb3);have hz:=HF.out.1;clear hb1 hb2 hb3;go_upto_region 5 with (fail)
 obtain⟨w5,hw,cu,iU,jO,vS,hs7,Dv,lG,-,-,-,-⟩:=HF.out.2;rw [hw];clear hw hz HF;have o0:=lG.out.cell 0;have o1:=lG.out.cell 1;have o2:=lG.out.cell 2;have Uk:=lG.out.lt;have p0:=iU.out.cell 0;have p2:=iU.out.cell 2;have q0:=cu.out.cell 0;have q1:=cu.out.cell 1;have q2:=cu.out.cell 2;have q3:=cu.out.cell 3;have r0:=cu.out.frozen 0;have r1:=cu.out.frozen 1;have r2:=cu.out.frozen 2;have r3:=cu.out.frozen 3;go_wp2_with fail;refine (mZ _ _ _ _).mono ?_;rintro e w6⟨rfl,hb6⟩;have HQ:=hid (gF hb6);have dA:=hid (show aC w6 (w.heap.size+1) 119 #[.bool false,.int .i64 0,.int .i64 0,.slice none 0 0] from aC.below (by repeat (first|(with_reducible exact cu.out)|(with_reducible refine aC.alloc ?_ _))) hb6 (by first | omega|(simp;omega)));have kT:=hid (show Below w.heap.size w w6 from Below.trans (by repeat (first|(with_reducible exact jO.out)|(with_reducible refine dx ?_ ?_)|(with_reducible refine ah ?_ ?_) | omega|(simp;omega))) (hb6.mono (by first | omega|(simp;omega))));clear hb6;clear q0 q1 q2 q3 r0 r1 r2 r3;have q0:=dA.out.cell 0;have q1:=dA.out.cell 1;have q2:=dA.out.cell 2;have q3:=dA.out.cell 3;have r0:=dA.out.frozen 0;have r1:=dA.out.frozen 1;have r2:=dA.out.frozen 2;have r3:=dA.out.frozen 3;go_wp2_with fail;refine bodyPost_ret (v:=.tuple #[.agg #[.bool true,.int .i64 0,.int .i64 0,.slice (some ⟨w5.heap.size,0,none⟩) 1 1],.bool true]) (by simp [results,Tryz.f103,go_sem,q0,q1,q2,q3]) rfl ?_
 refine⟨_,_,_,_,_,_,_,rfl,?_,rfl,rfl,rfl,rfl,rfl,aaJ _,?_⟩
 ·repeat (first|(with_reducible exact kT.out)|(with_reducible refine dx ?_ ?_)|(with_reducible refine ah ?_ ?_) | omega|(simp;omega))
 ·refine dS.one (T:=152) ?_
  repeat (first|(with_reducible refine aC.far ?_ ?_ _) | exact HQ.out|(simp;omega))
theorem WX (x:Bs)(n a:Int)(Ak:Option Addr)(nk ck:Nat)(w:World):Calls Tryz.prog 103 #[.agg #[.int .u8 44,.string (aM x),.int .i64 n,.slice Ak nk ck,.int .i64 a]] w (eB (Mist.shapeOf 44 n) w):=by
 go_in
 go_wp2_with fail;refine (aG _ _).mono ?_;rintro e w1⟨rfl,hb1⟩;go_wp2_with fail;refine (aG _ _).mono ?_;rintro e w2⟨rfl,hb2⟩;go_wp2_with fail;refine (aG _ _).mono ?_;rintro e w3⟨rfl,hb3⟩;have HF:=hid (fP hb1 hb2 hb3);have hz:=HF.out.1;clear hb1 hb2 hb3;go_upto_region 5 with (fail)
 obtain⟨w5,hw,cu,iU,jO,vS,hs7,Dv,lG,-,-,-,-⟩:=HF.out.2;rw [hw];clear hw hz HF;have o0:=lG.out.cell 0;have o1:=lG.out.cell 1;have o2:=lG.out.cell 2;have Uk:=lG.out.lt;have p0:=iU.out.cell 0;have p2:=iU.out.cell 2;have q0:=cu.out.cell 0;have q1:=cu.out.cell 1;have q2:=cu.out.cell 2;have q3:=cu.out.cell 3;have r0:=cu.out.frozen 0;have r1:=cu.out.frozen 1;have r2:=cu.out.frozen 2;have r3:=cu.out.frozen 3;go_wp2_with fail;refine (mZ _ _ _ _).mono ?_;rintro e w6⟨rfl,hb6⟩;have HQ:=hid (gF hb6);have dA:=hid (show aC w6 (w.heap.size+1) 119 #[.bool false,.int .i64 0,.int .i64 0,.slice none 0 0] from aC.below (by repeat (first|(with_reducible exact cu.out)|(with_reducible refine aC.alloc ?_ _))) hb6 (by first | omega|(simp;omega)));have kT:=hid (show Below w.heap.size w w6 from Below.trans (by repeat (first|(with_reducible exact jO.out)|(with_reducible refine dx ?_ ?_)|(with_reducible refine ah ?_ ?_) | omega|(simp;omega))) (hb6.mono (by first | omega|(simp;omega))));clear hb6;clear q0 q1 q2 q3 r0 r1 r2 r3;have q0:=dA.out.cell 0;have q1:=dA.out.cell 1;have q2:=dA.out.cell 2;have q3:=dA.out.cell 3;have r0:=dA.out.frozen 0;have r1:=dA.out.frozen 1;have r2:=dA.out.frozen 2;have r3:=dA.out.frozen 3;go_wp2_with fail;refine bodyPost_ret (v:=.tuple #[.agg #[.bool true,.int .i64 0,.int .i64 0,.slice (some ⟨w5.heap.size,0,none⟩) 1 1],.bool true]) (by simp [results,Tryz.f103,go_sem,q0,q1,q2,q3]) rfl ?_
 refine⟨_,_,_,_,_,_,_,rfl,?_,rfl,rfl,rfl,rfl,rfl,aaJ _,?_⟩
 ·repeat (first|(with_reducible exact kT.out)|(with_reducible refine dx ?_ ?_)|(with_reducible refine ah ?_ ?_) | omega|(simp;omega))
 ·refine dS.one (T:=152) ?_
  repeat (first|(with_reducible refine aC.far ?_ ?_ _) | exact HQ.out|(simp;omega))
theorem WJ (x:Bs)(n a:Int)(Ak:Option Addr)(nk ck:Nat)(w:World):Calls Tryz.prog 103 #[.agg #[.int .u8 24,.string (aM x),.int .i64 n,.slice Ak nk ck,.int .i64 a]] w (eB (Mist.shapeOf 24 n) w):=by
 go_in
 go_wp2_with fail;refine (aG _ _).mono ?_;rintro e w1⟨rfl,hb1⟩;go_wp2_with fail;refine (aG _ _).mono ?_;rintro e w2⟨rfl,hb2⟩;go_wp2_with fail;refine (aG _ _).mono ?_;rintro e w3⟨rfl,hb3⟩;have HF:=hid (fP hb1 hb2 hb3);have hz:=HF.out.1;clear hb1 hb2 hb3;go_upto_region 5 with (fail)
 obtain⟨w5,hw,cu,iU,jO,vS,hs7,Dv,-⟩:=HF.out.2;rw [hw];clear hw hz HF;have p0:=iU.out.cell 0;have p2:=iU.out.cell 2;have q0:=cu.out.cell 0;have q1:=cu.out.cell 1;have q2:=cu.out.cell 2;have q3:=cu.out.cell 3;have r0:=cu.out.frozen 0;have r1:=cu.out.frozen 1;have r2:=cu.out.frozen 2;have r3:=cu.out.frozen 3;go_wp2_with fail;refine (mZ _ _ _ _).mono ?_;rintro e w6⟨rfl,hb6⟩;have HQ:=hid (gF hb6);have dA:=hid (show aC w6 (w.heap.size+1) 119 #[.bool false,.int .i64 0,.int .i64 0,.slice none 0 0] from aC.below (by repeat (first|(with_reducible exact cu.out)|(with_reducible refine aC.alloc ?_ _))) hb6 (by first | omega|(simp;omega)));have kT:=hid (show Below w.heap.size w w6 from Below.trans (by repeat (first|(with_reducible exact jO.out)|(with_reducible refine dx ?_ ?_)|(with_reducible refine ah ?_ ?_) | omega|(simp;omega))) (hb6.mono (by first | omega|(simp;omega))));clear hb6;clear q0 q1 q2 q3 r0 r1 r2 r3;have q0:=dA.out.cell 0;have q1:=dA.out.cell 1;have q2:=dA.out.cell 2;have q3:=dA.out.cell 3;have r0:=dA.out.frozen 0;have r1:=dA.out.frozen 1;have r2:=dA.out.frozen 2;have r3:=dA.out.frozen 3;go_wp2_with fail;refine bodyPost_ret (v:=.tuple #[.agg #[.bool true,.int .i64 0,.int .i64 0,.slice (some ⟨w5.heap.size,0,none⟩) 1 1],.bool true]) (by simp [results,Tryz.f103,go_sem,q0,q1,q2,q3]) rfl ?_
 refine⟨_,_,_,_,_,_,_,rfl,?_,rfl,rfl,rfl,rfl,rfl,aaJ _,?_⟩
 ·repeat (first|(with_reducible exact kT.out)|(with_reducible refine dx ?_ ?_)|(with_reducible refine ah ?_ ?_) | omega|(simp;omega))
 ·refine dS.one (T:=152) ?_
  repeat (first|(with_reducible refine aC.far ?_ ?_ _) | exact HQ.out|(simp;omega))
theorem WU (x:Bs)(n a:Int)(Ak:Option Addr)(nk ck:Nat)(w:World):Calls Tryz.prog 103 #[.agg #[.int .u8 41,.string (aM x),.int .i64 n,.slice Ak nk ck,.int .i64 a]] w (eB (Mist.shapeOf 41 n) w):=by
 go_in
 go_wp2_with fail;refine (aG _ _).mono ?_;rintro e w1⟨rfl,hb1⟩;go_wp2_with fail;refine (aG _ _).mono ?_;rintro e w2⟨rfl,hb2⟩;go_wp2_with fail;refine (aG _ _).mono ?_;rintro e w3⟨rfl,hb3⟩;have HF:=hid (fP hb1 hb2 hb3);have hz:=HF.out.1;clear hb1 hb2 hb3;go_upto_region 5 with (fail)
 obtain⟨w5,hw,cu,iU,jO,vS,hs7,Dv,-⟩:=HF.out.2;rw [hw];clear hw hz HF;have p0:=iU.out.cell 0;have p2:=iU.out.cell 2;have q0:=cu.out.cell 0;have q1:=cu.out.cell 1;have q2:=cu.out.cell 2;have q3:=cu.out.cell 3;have r0:=cu.out.frozen 0;have r1:=cu.out.frozen 1;have r2:=cu.out.frozen 2;have r3:=cu.out.frozen 3;go_wp2_with fail;refine (mZ _ _ _ _).mono ?_;rintro e w6⟨rfl,hb6⟩;have HQ:=hid (gF hb6);have dA:=hid (show aC w6 (w.heap.size+1) 119 #[.bool false,.int .i64 0,.int .i64 0,.slice none 0 0] from aC.below (by repeat (first|(with_reducible exact cu.out)|(with_reducible refine aC.alloc ?_ _))) hb6 (by first | omega|(simp;omega)));have kT:=hid (show Below w.heap.size w w6 from Below.trans (by repeat (first|(with_reducible exact jO.out)|(with_reducible refine dx ?_ ?_)|(with_reducible refine ah ?_ ?_) | omega|(simp;omega))) (hb6.mono (by first | omega|(simp;omega))));clear hb6;clear q0 q1 q2 q3 r0 r1 r2 r3;have q0:=dA.out.cell 0;have q1:=dA.out.cell 1;have q2:=dA.out.cell 2;have q3:=dA.out.cell 3;have r0:=dA.out.frozen 0;have r1:=dA.out.frozen 1;have r2:=dA.out.frozen 2;have r3:=dA.out.frozen 3;go_wp2_with fail;refine bodyPost_ret (v:=.tuple #[.agg #[.bool true,.int .i64 0,.int .i64 0,.slice (some ⟨w5.heap.size,0,none⟩) 1 1],.bool true]) (by simp [results,Tryz.f103,go_sem,q0,q1,q2,q3]) rfl ?_
 refine⟨_,_,_,_,_,_,_,rfl,?_,rfl,rfl,rfl,rfl,rfl,aaJ _,?_⟩
 ·repeat (first|(with_reducible exact kT.out)|(with_reducible refine dx ?_ ?_)|(with_reducible refine ah ?_ ?_) | omega|(simp;omega))
 ·refine dS.one (T:=152) ?_
  repeat (first|(with_reducible refine aC.far ?_ ?_ _) | exact HQ.out|(simp;omega))
theorem WS (x:Bs)(n a:Int)(Ak:Option Addr)(nk ck:Nat)(w:World):Calls Tryz.prog 103 #[.agg #[.int .u8 34,.string (aM x),.int .i64 n,.slice Ak nk ck,.int .i64 a]] w (eB (Mist.shapeOf 34 n) w):=by
 go_in
 go_wp2_with fail;refine (aG _ _).mono ?_;rintro e w1⟨rfl,hb1⟩;go_wp2_with fail;refine (aG _ _).mono ?_;rintro e w2⟨rfl,hb2⟩;go_wp2_with fail;refine (aG _ _).mono ?_;rintro e w3⟨rfl,hb3⟩;have HF:=hid (fP hb1 hb2 hb3);have hz:=HF.out.1;clear hb1 hb2 hb3;go_upto_region 5 with (fail)
 obtain⟨w5,hw,cu,iU,jO,vS,hs7,Dv,-⟩:=HF.out.2;rw [hw];clear hw hz HF;have p0:=iU.out.cell 0;have p2:=iU.out.cell 2;have q0:=cu.out.cell 0;have q1:=cu.out.cell 1;have q2:=cu.out.cell 2;have q3:=cu.out.cell 3;have r0:=cu.out.frozen 0;have r1:=cu.out.frozen 1;have r2:=cu.out.frozen 2;have r3:=cu.out.frozen 3;go_wp2_with fail;refine (OJ _ _).mono ?_;rintro e w6⟨rfl,hb6⟩;have dA:=hid (show aC w6 (w.heap.size+1) 119 #[.bool false,.int .i64 0,.int .i64 0,.slice none 0 0] from aC.below (by repeat (first|(with_reducible exact cu.out)|(with_reducible refine aC.alloc ?_ _))) hb6 (by first | omega|(simp;omega)));have kT:=hid (show Below w.heap.size w w6 from Below.trans (by repeat (first|(with_reducible exact jO.out)|(with_reducible refine dx ?_ ?_)|(with_reducible refine ah ?_ ?_) | omega|(simp;omega))) (hb6.mono (by first | omega|(simp;omega))));clear hb6;clear q0 q1 q2 q3 r0 r1 r2 r3;have q0:=dA.out.cell 0;have q1:=dA.out.cell 1;have q2:=dA.out.cell 2;have q3:=dA.out.cell 3;have r0:=dA.out.frozen 0;have r1:=dA.out.frozen 1;have r2:=dA.out.frozen 2;have r3:=dA.out.frozen 3;have hs9:=dA.out.lt;go_wp2_with fail;refine (mZ _ _ _ _).mono ?_;rintro e w7⟨rfl,nI⟩;have HQ:=hid (gF nI);have uN:=hid (show aC w7 (w.heap.size+1) 119 #[.bool false,.int .i64 0,.int .i64 0,.slice none 0 0] from aC.below (by repeat (first|(with_reducible exact dA.out)|(with_reducible refine aC.alloc ?_ _))) nI (by first | omega|(simp;omega)));have U0:=hid (show Below w.heap.size w w7 from Below.trans (by repeat (first|(with_reducible exact kT.out)|(with_reducible refine dx ?_ ?_)|(with_reducible refine ah ?_ ?_) | omega|(simp;omega))) (nI.mono (by first | omega|(simp;omega))));clear nI;clear q0 q1 q2 q3 r0 r1 r2 r3;have q0:=uN.out.cell 0;have q1:=uN.out.cell 1;have q2:=uN.out.cell 2;have q3:=uN.out.cell 3;have r0:=uN.out.frozen 0;have r1:=uN.out.frozen 1;have r2:=uN.out.frozen 2;have r3:=uN.out.frozen 3;go_wp2_with fail;refine bodyPost_ret (v:=.tuple #[.agg #[.bool true,.int .i64 0,.int .i64 0,.slice (some ⟨w6.heap.size,0,none⟩) 1 1],.bool true]) (by simp [results,Tryz.f103,go_sem,q0,q1,q2,q3]) rfl ?_
 refine⟨_,_,_,_,_,_,_,rfl,?_,rfl,rfl,rfl,rfl,rfl,aaJ _,?_⟩
 ·repeat (first|(with_reducible exact U0.out)|(with_reducible refine dx ?_ ?_)|(with_reducible refine ah ?_ ?_) | omega|(simp;omega))
 ·refine dS.one (T:=152) ?_
  repeat (first|(with_reducible refine aC.far ?_ ?_ _) | exact HQ.out|(simp;omega))
theorem WT (x:Bs)(n a:Int)(Ak:Option Addr)(nk ck:Nat)(w:World):Calls Tryz.prog 103 #[.agg #[.int .u8 40,.string (aM x),.int .i64 n,.slice Ak nk ck,.int .i64 a]] w (eB (Mist.shapeOf 40 n) w):=by
 go_in
 go_wp2_with fail;refine (aG _ _).mono ?_;rintro e w1⟨rfl,hb1⟩;go_wp2_with fail;refine (aG _ _).mono ?_;rintro e w2⟨rfl,hb2⟩;go_wp2_with fail;refine (aG _ _).mono ?_;rintro e w3⟨rfl,hb3⟩;have HF:=hid (fP hb1 hb2 hb3);have hz:=HF.out.1;clear hb1 hb2 hb3;go_upto_region 5 with (fail)
 obtain⟨w5,hw,cu,iU,jO,vS,hs7,Dv,-⟩:=HF.out.2;rw [hw];clear hw hz HF;have p0:=iU.out.cell 0;have p2:=iU.out.cell 2;have q0:=cu.out.cell 0;have q1:=cu.out.cell 1;have q2:=cu.out.cell 2;have q3:=cu.out.cell 3;have r0:=cu.out.frozen 0;have r1:=cu.out.frozen 1;have r2:=cu.out.frozen 2;have r3:=cu.out.frozen 3;go_wp2_with fail;refine (aac _ _).mono ?_;rintro e w6⟨rfl,hb6⟩;have dA:=hid (show aC w6 (w.heap.size+1) 119 #[.bool false,.int .i64 0,.int .i64 0,.slice none 0 0] from aC.below (by repeat (first|(with_reducible exact cu.out)|(with_reducible refine aC.alloc ?_ _))) hb6 (by first | omega|(simp;omega)));have kT:=hid (show Below w.heap.size w w6 from Below.trans (by repeat (first|(with_reducible exact jO.out)|(with_reducible refine dx ?_ ?_)|(with_reducible refine ah ?_ ?_) | omega|(simp;omega))) (hb6.mono (by first | omega|(simp;omega))));clear hb6;clear q0 q1 q2 q3 r0 r1 r2 r3;have q0:=dA.out.cell 0;have q1:=dA.out.cell 1;have q2:=dA.out.cell 2;have q3:=dA.out.cell 3;have r0:=dA.out.frozen 0;have r1:=dA.out.frozen 1;have r2:=dA.out.frozen 2;have r3:=dA.out.frozen 3;have hs9:=dA.out.lt;go_wp2_with fail;refine (mZ _ _ _ _).mono ?_;rintro e w7⟨rfl,nI⟩;have HQ:=hid (gF nI);have uN:=hid (show aC w7 (w.heap.size+1) 119 #[.bool false,.int .i64 0,.int .i64 0,.slice none 0 0] from aC.below (by repeat (first|(with_reducible exact dA.out)|(with_reducible refine aC.alloc ?_ _))) nI (by first | omega|(simp;omega)));have U0:=hid (show Below w.heap.size w w7 from Below.trans (by repeat (first|(with_reducible exact kT.out)|(with_reducible refine dx ?_ ?_)|(with_reducible refine ah ?_ ?_) | omega|(simp;omega))) (nI.mono (by first | omega|(simp;omega))));clear nI;clear q0 q1 q2 q3 r0 r1 r2 r3;have q0:=uN.out.cell 0;have q1:=uN.out.cell 1;have q2:=uN.out.cell 2;have q3:=uN.out.cell 3;have r0:=uN.out.frozen 0;have r1:=uN.out.frozen 1;have r2:=uN.out.frozen 2;have r3:=uN.out.frozen 3;go_wp2_with fail;refine bodyPost_ret (v:=.tuple #[.agg #[.bool true,.int .i64 0,.int .i64 0,.slice (some ⟨w6.heap.size,0,none⟩) 1 1],.bool true]) (by simp [results,Tryz.f103,go_sem,q0,q1,q2,q3]) rfl ?_
 refine⟨_,_,_,_,_,_,_,rfl,?_,rfl,rfl,rfl,rfl,rfl,aaJ _,?_⟩
 ·repeat (first|(with_reducible exact U0.out)|(with_reducible refine dx ?_ ?_)|(with_reducible refine ah ?_ ?_) | omega|(simp;omega))
 ·refine dS.one (T:=152) ?_
  repeat (first|(with_reducible refine aC.far ?_ ?_ _) | exact HQ.out|(simp;omega))
theorem WR (x:Bs)(n a:Int)(Ak:Option Addr)(nk ck:Nat)(w:World):Calls Tryz.prog 103 #[.agg #[.int .u8 33,.string (aM x),.int .i64 n,.slice Ak nk ck,.int .i64 a]] w (eB (Mist.shapeOf 33 n) w):=by
 go_in
 go_wp2_with fail;refine (aG _ _).mono ?_;rintro e w1⟨rfl,hb1⟩;go_wp2_with fail;refine (aG _ _).mono ?_;rintro e w2⟨rfl,hb2⟩;go_wp2_with fail;refine (aG _ _).mono ?_;rintro e w3⟨rfl,hb3⟩;have HF:=hid (fP hb1 hb2 hb3);have hz:=HF.out.1;clear hb1 hb2 hb3;go_upto_region 5 with (fail)
 obtain⟨w5,hw,cu,iU,jO,vS,hs7,Dv,-⟩:=HF.out.2;rw [hw];clear hw hz HF;have p0:=iU.out.cell 0;have p2:=iU.out.cell 2;have q0:=cu.out.cell 0;have q1:=cu.out.cell 1;have q2:=cu.out.cell 2;have q3:=cu.out.cell 3;have r0:=cu.out.frozen 0;have r1:=cu.out.frozen 1;have r2:=cu.out.frozen 2;have r3:=cu.out.frozen 3;go_wp2_with fail;refine (OJ _ _).mono ?_;rintro e w6⟨rfl,hb6⟩;have dA:=hid (show aC w6 (w.heap.size+1) 119 #[.bool false,.int .i64 0,.int .i64 0,.slice none 0 0] from aC.below (by repeat (first|(with_reducible exact cu.out)|(with_reducible refine aC.alloc ?_ _))) hb6 (by first | omega|(simp;omega)));have kT:=hid (show Below w.heap.size w w6 from Below.trans (by repeat (first|(with_reducible exact jO.out)|(with_reducible refine dx ?_ ?_)|(with_reducible refine ah ?_ ?_) | omega|(simp;omega))) (hb6.mono (by first | omega|(simp;omega))));clear hb6;clear q0 q1 q2 q3 r0 r1 r2 r3;have q0:=dA.out.cell 0;have q1:=dA.out.cell 1;have q2:=dA.out.cell 2;have q3:=dA.out.cell 3;have r0:=dA.out.frozen 0;have r1:=dA.out.frozen 1;have r2:=dA.out.frozen 2;have r3:=dA.out.frozen 3;have hs9:=dA.out.lt;go_wp2_with fail;refine bodyPost_ret (v:=.tuple #[.agg #[.bool false,.int .i64 (-9223372036854775808),.int .i64 9223372036854775807,.slice (some ⟨w6.heap.size,0,none⟩) 1 1],.bool true]) (by simp [results,Tryz.f103,go_sem,q0,q1,q2,q3,hs9]) rfl ?_
 refine⟨_,_,_,_,_,_,_,rfl,?_,rfl,rfl,rfl,rfl,rfl,aaJ _,?_⟩
 ·repeat (first|(with_reducible exact kT.out)|(with_reducible refine dx ?_ ?_)|(with_reducible refine ah ?_ ?_) | omega|(simp;omega))
 ·refine dS.one (T:=152) ?_;exact yU (by simp)
theorem dS.far {w:World}{A:Option Addr}{ps:List Part}(h:dS w A ps){g i:Nat}{u:Value}(hn:∀ b,A=some ⟨b,0,none⟩→b ≠ g):dS (w.setCell ⟨g,i,none⟩ u) A ps :=
 ⟨fun h0=>by
  obtain⟨b,e,hl,hc⟩:=h.ex h0;have hne:=hn b e
  refine⟨b,e,by simpa [World.setCell] using hl,fun j p hj=>?_⟩
  have hk:∀ o,(w.setCell ⟨g,i,none⟩ u).cell? ⟨b,o,none⟩=w.cell? ⟨b,o,none⟩:=fun o=>World.cell?_setCell_other _ _ _ _ (fun e2=>hne (congrArg Addr.block e2).symm)
  rw [hk,hk,hk];exact hc j p hj⟩
def Fw (q:Int)(w:World)(e:Ending)(w':World):Prop :=
 ∃ A c,e=.returned (.agg #[.bool false,.int .i64 1,.int .i64 8,.slice A (Mist.asked q).parts.length c])∧(Mist.asked q).parts.length≤c∧dS w' A (Mist.asked q).parts∧(∀ b,A=some ⟨b,0,none⟩→w.heap.size≤b)∧Below w.heap.size w w'
theorem asked_7 (w:World):Calls Tryz.prog 164 #[.int .i64 7] w (Fw 7 w):=by
 go_in
 go_wp2_with fail;refine (aG _ _).mono ?_;rintro e w1⟨rfl,hb1⟩;have HB1:=hid (gF hb1);have uE:=hid ((ah (Below.refl w.heap.size w) (aaJ _) (o:=.cells #[.bool false,.int .i64 0,.int .i64 0,.slice none 0 0] 119)).trans (hb1.mono (by simp)));clear hb1;have q0:=HB1.out.cell 0;have q1:=HB1.out.cell 1;have q2:=HB1.out.cell 2;have q3:=HB1.out.cell 3;have r0:=HB1.out.frozen 0;have r1:=HB1.out.frozen 1;have r2:=HB1.out.frozen 2;have r3:=HB1.out.frozen 3;have hz0:=HB1.out.lt;have hz1:w.heap.size < w1.heap.size+1:=by omega
 have hz2:w.heap.size < w1.heap.size+1+1:=by omega
 have hz3:w.heap.size < w1.heap.size+1+1+1:=by omega
 go_wp2_with fail;refine bodyPost_ret (v:=.agg #[.bool false,.int .i64 1,.int .i64 8,.slice none 0 0]) (by simp [results,Tryz.f164,go_sem,q0,q1,q2,q3,hz0,hz1]) rfl ?_
 refine⟨none,0,rfl,aaJ _,dS.nil _,(fun b h=>nomatch h),?_⟩
 repeat (first|(with_reducible exact uE.out)|(with_reducible refine dx ?_ ?_)|(with_reducible refine ah ?_ ?_) | omega|(simp;omega))
theorem asked_8 (w:World):Calls Tryz.prog 164 #[.int .i64 8] w (Fw 8 w):=by
 have HAP:=hid (show (Mist.asked 8).parts=[⟨1,801,.expr⟩] from rfl);go_in
 go_wp2_with fail;refine (aG _ _).mono ?_;rintro e w1⟨rfl,hb1⟩;have HB1:=hid (gF hb1);have uE:=hid ((ah (Below.refl w.heap.size w) (aaJ _) (o:=.cells #[.bool false,.int .i64 0,.int .i64 0,.slice none 0 0] 119)).trans (hb1.mono (by simp)));clear hb1;have q0:=HB1.out.cell 0;have q1:=HB1.out.cell 1;have q2:=HB1.out.cell 2;have q3:=HB1.out.cell 3;have r0:=HB1.out.frozen 0;have r1:=HB1.out.frozen 1;have r2:=HB1.out.frozen 2;have r3:=HB1.out.frozen 3;have hz0:=HB1.out.lt;have hz1:w.heap.size < w1.heap.size+1:=by omega
 have hz2:w.heap.size < w1.heap.size+1+1:=by omega
 have hz3:w.heap.size < w1.heap.size+1+1+1:=by omega
 go_wp2_with fail;refine bodyPost_ret (v:=.agg #[.bool false,.int .i64 1,.int .i64 8,.slice (some ⟨w1.heap.size+1+1,0,none⟩) 1 1]) (by simp [results,Tryz.f164,go_sem,q0,q1,q2,q3,hz0,hz1,hz2]) rfl ?_
 refine⟨some ⟨w1.heap.size+1+1,0,none⟩,1,by rw [HAP.out];rfl,by rw [HAP.out];exact aaJ _,?_,?_,?_⟩
 ·rw [HAP.out];refine dS.one (T:=152) ?_;exact yU (by simp)
 ·intro b h;injection h with h;injection h with h;omega
 ·repeat (first|(with_reducible exact uE.out)|(with_reducible refine dx ?_ ?_)|(with_reducible refine ah ?_ ?_) | omega|(simp;omega))
theorem asked_n (q:Int)(h7:¬ q=7)(h8:¬ q=8)(w:World):Calls Tryz.prog 164 #[.int .i64 q] w (Fw q w):=by
 have a7:(q == 7)=false:=by simpa using h7
 have a8:(q == 8)=false:=by simpa using h8
 have HAP:=hid (show (Mist.asked q).parts=[⟨1,1,.expr⟩] by simp [Mist.asked,h7,h8]);go_in
 go_wp2_with fail;refine (aG _ _).mono ?_;rintro e w1⟨rfl,hb1⟩;have HB1:=hid (gF hb1);have uE:=hid ((ah (Below.refl w.heap.size w) (aaJ _) (o:=.cells #[.bool false,.int .i64 0,.int .i64 0,.slice none 0 0] 119)).trans (hb1.mono (by simp)));clear hb1;have q0:=HB1.out.cell 0;have q1:=HB1.out.cell 1;have q2:=HB1.out.cell 2;have q3:=HB1.out.cell 3;have r0:=HB1.out.frozen 0;have r1:=HB1.out.frozen 1;have r2:=HB1.out.frozen 2;have r3:=HB1.out.frozen 3;have hz0:=HB1.out.lt;have hz1:w.heap.size < w1.heap.size+1:=by omega
 have hz2:w.heap.size < w1.heap.size+1+1:=by omega
 have hz3:w.heap.size < w1.heap.size+1+1+1:=by omega
 go_wp2_with fail;refine bodyPost_ret (v:=.agg #[.bool false,.int .i64 1,.int .i64 8,.slice (some ⟨w1.heap.size,0,none⟩) 1 1]) (by simp [results,Tryz.f164,go_sem,q0,q1,q2,q3,hz0,hz1]) rfl ?_
 refine⟨some ⟨w1.heap.size,0,none⟩,1,by rw [HAP.out];rfl,by rw [HAP.out];exact aaJ _,?_,?_,?_⟩
 ·rw [HAP.out];refine dS.one (T:=152) ?_;exact aC.alloc (yU (by simp)) _
 ·intro b h;injection h with h;injection h with h;omega
 ·repeat (first|(with_reducible exact uE.out)|(with_reducible refine dx ?_ ?_)|(with_reducible refine ah ?_ ?_) | omega|(simp;omega))
theorem Vh (q:Int)(w:World):Calls Tryz.prog 164 #[.int .i64 q] w (Fw q w):=by
 by_cases h7:q=7
 ·subst h7;exact asked_7 w
 ·by_cases h8:q=8
  ·subst h8;exact asked_8 w
  ·exact asked_n q h7 h8 w
theorem WZ (x:Bs)(n a:Int)(Ak:Option Addr)(nk ck:Nat)(w:World):Calls Tryz.prog 103 #[.agg #[.int .u8 46,.string (aM x),.int .i64 n,.slice Ak nk ck,.int .i64 a]] w (eB (Mist.shapeOf 46 n) w):=by
 go_in
 go_wp2_with fail;refine (aG _ _).mono ?_;rintro e w1⟨rfl,hb1⟩;go_wp2_with fail;refine (aG _ _).mono ?_;rintro e w2⟨rfl,hb2⟩;go_wp2_with fail;refine (aG _ _).mono ?_;rintro e w3⟨rfl,hb3⟩;have HF:=hid (fP hb1 hb2 hb3);have hz:=HF.out.1;clear hb1 hb2 hb3;go_upto_region 5 with (fail)
 obtain⟨w5,hw,cu,iU,jO,vS,hs7,Dv,-⟩:=HF.out.2;rw [hw];clear hw hz HF;have p0:=iU.out.cell 0;have p2:=iU.out.cell 2;have q0:=cu.out.cell 0;have q1:=cu.out.cell 1;have q2:=cu.out.cell 2;have q3:=cu.out.cell 3;have r0:=cu.out.frozen 0;have r1:=cu.out.frozen 1;have r2:=cu.out.frozen 2;have r3:=cu.out.frozen 3;go_wp2_with fail;refine (Vh _ _).mono ?_;rintro e w6⟨A4,c4,rfl,hc4,hp4,hn4,hb6⟩;have YC:=hid hp4;have E8:=hid (show ∀ b,A4=some ⟨b,0,none⟩→b ≠ w.heap.size+1 from fun b h=>by have h9:=hn4 b h;omega);clear hp4 hn4;have dA:=hid (show aC w6 (w.heap.size+1) 119 #[.bool false,.int .i64 0,.int .i64 0,.slice none 0 0] from aC.below (by repeat (first|(with_reducible exact cu.out)|(with_reducible refine aC.alloc ?_ _))) hb6 (by first | omega|(simp;omega)));have kT:=hid (show Below w.heap.size w w6 from Below.trans (by repeat (first|(with_reducible exact jO.out)|(with_reducible refine dx ?_ ?_)|(with_reducible refine ah ?_ ?_) | omega|(simp;omega))) (hb6.mono (by first | omega|(simp;omega))));clear hb6;clear q0 q1 q2 q3 r0 r1 r2 r3;have q0:=dA.out.cell 0;have q1:=dA.out.cell 1;have q2:=dA.out.cell 2;have q3:=dA.out.cell 3;have r0:=dA.out.frozen 0;have r1:=dA.out.frozen 1;have r2:=dA.out.frozen 2;have r3:=dA.out.frozen 3;obtain⟨n4,hn4⟩:∃ n4,n4=(Mist.asked n).parts.length:=⟨_,rfl⟩;rw [← hn4] at hc4 ⊢
 have HN:=hid hn4;clear hn4;go_wp2_with fail;refine bodyPost_ret (v:=.tuple #[.agg #[.bool false,.int .i64 1,.int .i64 8,.slice A4 n4 c4],.bool true]) (by simp [results,Tryz.f103,go_sem,q0,q1,q2,q3]) rfl ?_
 refine⟨_,_,_,A4,_,_,_,rfl,?_,rfl,rfl,rfl,rfl,HN.out,hc4,?_⟩
 ·repeat (first|(with_reducible exact kT.out)|(with_reducible refine dx ?_ ?_)|(with_reducible refine ah ?_ ?_) | omega|(simp;omega))
 ·repeat (first|(with_reducible refine dS.far ?_ E8.out) | exact YC.out)
theorem dS.three {w:World}{b:Nat}{p q r:Part}(h:aC w b 152 (Ux p ++ Ux q ++ Ux r).toArray):dS w (some ⟨b,0,none⟩) [p,q,r]:=by
 refine⟨fun _=>⟨b,rfl,h.lt,fun j x hj=>?_⟩⟩
 match j,hj with
 | 0, hj => obtain rfl : p = x := by simpa using hj
            exact⟨h.cell 0,h.cell 1,h.cell 2⟩
 | 1, hj => obtain rfl : q = x := by simpa using hj
            exact⟨h.cell 3,h.cell 4,h.cell 5⟩
 | 2, hj => obtain rfl : r = x := by simpa using hj
            exact⟨h.cell 6,h.cell 7,h.cell 8⟩
 | j+3,hj=>simp at hj
theorem R4 (n:Int)(w:World):Calls Tryz.prog 157 #[.int .i64 n,.func (.func 161) #[] #[]] w fun e w'=>e=.returned (.agg #[.int .i64 n,.int .i64 n,.func (.func 161) #[] #[]])∧w'=w.alloc (.cells #[.int .i64 n,.int .i64 n,.func (.func 161) #[] #[]] 152):=by
 go_in
 go_wp2;exact bodyPost_ret (v:=.agg #[.int .i64 n,.int .i64 n,.func (.func 161) #[] #[]]) (by simp [results,Tryz.f157,go_sem]) rfl ⟨rfl,rfl⟩
theorem WV (x:Bs)(n a:Int)(Ak:Option Addr)(nk ck:Nat)(w:World):Calls Tryz.prog 103 #[.agg #[.int .u8 42,.string (aM x),.int .i64 n,.slice Ak nk ck,.int .i64 a]] w (eB (Mist.shapeOf 42 n) w):=by
 go_in
 go_wp2_with fail;refine (aG _ _).mono ?_;rintro e w1⟨rfl,hb1⟩;go_wp2_with fail;refine (aG _ _).mono ?_;rintro e w2⟨rfl,hb2⟩;go_wp2_with fail;refine (aG _ _).mono ?_;rintro e w3⟨rfl,hb3⟩;have HF:=hid (fP hb1 hb2 hb3);have hz:=HF.out.1;clear hb1 hb2 hb3;go_upto_region 5 with (fail)
 obtain⟨w5,hw,cu,iU,jO,vS,hs7,Dv,lG,-,-,-,-⟩:=HF.out.2;rw [hw];clear hw hz HF;have o0:=lG.out.cell 0;have o1:=lG.out.cell 1;have o2:=lG.out.cell 2;have Uk:=lG.out.lt;have p0:=iU.out.cell 0;have p2:=iU.out.cell 2;have q0:=cu.out.cell 0;have q1:=cu.out.cell 1;have q2:=cu.out.cell 2;have q3:=cu.out.cell 3;have r0:=cu.out.frozen 0;have r1:=cu.out.frozen 1;have r2:=cu.out.frozen 2;have r3:=cu.out.frozen 3;go_wp2_with fail;go_region_with ((refine (R4 _ _).mono ?_;rintro e w6⟨rfl,rfl⟩))
 all_goals
  go_wp2_with fail;refine bodyPost_ret (v:=.tuple #[.agg #[.bool true,.int .i64 0,.int .i64 9223372036854775807,.slice (some ⟨w5.heap.size+1,0,none⟩) 3 3],.bool true]) (by simp [results,Tryz.f103,go_sem,q0,q1,q2,q3,hs7,Dv]) rfl ?_
  refine⟨_,_,_,_,_,_,_,rfl,?_,rfl,rfl,rfl,rfl,rfl,aaJ _,?_⟩
  ·refine Below.drew ?_
   repeat (first|(with_reducible exact jO.out)|(with_reducible refine dx ?_ ?_)|(with_reducible refine ah ?_ ?_) | omega|(simp;omega))
  ·refine dS.three ?_;refine aC.drew ?_;exact yU (by simp)
end Go.Proofs.YthepmkjggfijoaaGreatDoor
