/-
  A part of the proof.
-/
import Derived.Test.YthepmkjggfijoaaGreatDoorSA
import Derived.Deep.Cut
import Derived.Deep.RegionHeld3
import Derived.Deep.RegionWith
import Derived.Test.YthepmkjggfijoaaGreatDoorS08
import Derived.Test.YthepmkjggfijoaaGreatDoorS22
import Derived.Test.YthepmkjggfijoaaGreatDoorS23
import Derived.Test.YthepmkjggfijoaaGreatDoorS24
set_option linter.all false
set_option maxRecDepth 100000
set_option maxHeartbeats 4000000
open Go.Lib (hid)
namespace Go.Proofs.YthepmkjggfijoaaGreatDoor
open Go.RowKit Mist
attribute [local go_sem] aj aH aS aB ak
theorem WI (x:Bs)(n a:Int)(Ak:Option Addr)(nk ck:Nat)(w:World):Calls Tryz.prog 103 #[.agg #[.int .u8 23,.string (aM x),.int .i64 n,.slice Ak nk ck,.int .i64 a]] w (eB (Mist.shapeOf 23 n) w):=by
 have HSH:=hid (show Mist.shapeOf 23 n=some ⟨false,0,0,[⟨2,2,.expr⟩]⟩ from rfl);go_in
 go_wp2_with fail;refine (aG _ _).mono ?_;rintro e w1⟨rfl,hb1⟩;go_wp2_with fail;refine (aG _ _).mono ?_;rintro e w2⟨rfl,hb2⟩;go_wp2_with fail;refine (aG _ _).mono ?_;rintro e w3⟨rfl,hb3⟩;have HF:=hid (fP hb1 hb2 hb3);have hz:=HF.out.1;clear hb1 hb2 hb3;go_upto_region 5 with (fail)
 obtain⟨w5,hw,cu,iU,jO,vS,hs7,Dv,-,lG,-,-,-⟩:=HF.out.2;rw [hw];clear hw hz HF;have o0:=lG.out.cell 0;have o1:=lG.out.cell 1;have o2:=lG.out.cell 2;have Uk:=lG.out.lt;have p0:=iU.out.cell 0;have p2:=iU.out.cell 2;have q0:=cu.out.cell 0;have q1:=cu.out.cell 1;have q2:=cu.out.cell 2;have q3:=cu.out.cell 3;have r0:=cu.out.frozen 0;have r1:=cu.out.frozen 1;have r2:=cu.out.frozen 2;have r3:=cu.out.frozen 3;go_wp2_with fail;have hp5:=iU.out.lt;have hne:w.heap.size ≠ w3.heap.size:=fun e=>cu.out.ne_ lG.out (by decide) (by rw [e])
 go_region_held3 (fun w'=>w'.cell? ⟨w.heap.size,0,none⟩=some (.int .u8 23)∧w'.cell? ⟨w3.heap.size+1,0,none⟩=some (.int .i64 2)∧w'.cell? ⟨w3.heap.size+1,1,none⟩=some (.int .i64 2)∧w'.cell? ⟨w3.heap.size+1,2,none⟩=some (.func (.func 69) #[] #[]))
  (first | go_keep|(go_split_ands;refine⟨?_,?_,?_,?_⟩ <;> assumption)|(go_split_ands;refine⟨?_,?_,?_,?_⟩ <;> go_keep))
  ((go_at_call 158;refine (uo _ _ _ _).mono ?_;rintro e w6⟨rfl,hb6⟩;have TB:=hid hb6;have xG:=hid (show aC w6 w.heap.size 50 #[.int .u8 23,.string (aM x),.int .i64 n,.slice Ak nk ck,.int .i64 a] from aC.below (by repeat (first|(with_reducible exact iU.out)|(with_reducible refine aC.alloc ?_ _)|(with_reducible refine aC.drew ?_))) hb6 (by first | omega|(simp;omega)));have QX:=hid (show aC w6 (w3.heap.size+1) 152 #[.int .i64 2,.int .i64 2,.func (.func 69) #[] #[]] from aC.below (by repeat (first|(with_reducible exact lG.out)|(with_reducible refine aC.alloc ?_ _)|(with_reducible refine aC.drew ?_))) hb6 (by first | omega|(simp;omega)));have dA:=hid (show aC w6 (w.heap.size+1) 119 #[.bool false,.int .i64 0,.int .i64 0,.slice none 0 0] from aC.below (by repeat (first|(with_reducible exact cu.out)|(with_reducible refine aC.alloc ?_ _)|(with_reducible refine aC.drew ?_))) hb6 (by first | omega|(simp;omega)));have kT:=hid (show Below w.heap.size w w6 from Below.trans (by repeat (first|(with_reducible exact jO.out)|(with_reducible refine ah ?_ ?_)|(with_reducible refine Below.drew ?_) | omega|(simp;omega))) (hb6.mono (by first | omega|(simp;omega))));clear hb6 p0 p2 q0 q1 q2 q3 r0 r1 r2 r3 o0 o1 o2;have p0:=xG.out.cell 0;have o0:=QX.out.cell 0;have o1:=QX.out.cell 1;have o2:=QX.out.cell 2;have q0:=dA.out.cell 0;have q1:=dA.out.cell 1;have q2:=dA.out.cell 2;have q3:=dA.out.cell 3;have r0:=dA.out.frozen 0;have r1:=dA.out.frozen 1;have r2:=dA.out.frozen 2;have r3:=dA.out.frozen 3;have hs9:=dA.out.lt))
 all_goals
  go_wp2_with fail;refine bodyPost_ret (v:=.tuple #[.agg #[.bool false,.int .i64 0,.int .i64 0,.slice (some ⟨w5.heap.size,0,none⟩) 1 1],.bool true]) (by simp [results,Tryz.f103,go_sem,q0,q1,q2,q3]) rfl ?_
  refine⟨_,_,_,_,_,_,_,rfl,?_,?_⟩
  ·repeat (first|(with_reducible exact kT.out)|(with_reducible refine dx ?_ ?_)|(with_reducible refine ah ?_ ?_)|(with_reducible refine Below.drew ?_) | omega|(simp;omega))
  ·rw [HSH.out]
   refine⟨rfl,rfl,rfl,rfl,rfl,aaJ _,?_⟩
   refine dS.one (T:=152) ?_;have hq:=(aC.drew (aC.new w5 152 #[.int .i64 2,.int .i64 2,.func (.func 69) #[] #[]])).below TB.out (by simp)
   repeat (first|(with_reducible refine aC.far ?_ ?_ _)|(with_reducible refine aC.drew ?_) | exact hq|(simp;omega))
theorem SY (k:Nat)(x:Bs)(n a:Int)(Ak:Option Addr)(nk ck:Nat)(w:World)(h:(27≤k∧k≤29)∨(35≤k∧k≤39)∨47≤k):Calls Tryz.prog 103 #[.agg #[.int .u8 k,.string (aM x),.int .i64 n,.slice Ak nk ck,.int .i64 a]] w (eB (Mist.shapeOf k n) w):=by
 have e1:((k:Int) == 1)=false:=by rw [aaF];omega
 have e2:((k:Int) == 2)=false:=by rw [aaF];omega
 have e3:((k:Int) == 3)=false:=by rw [aaF];omega
 have e32:((k:Int) == 32)=false:=by rw [aaF];omega
 have e45:((k:Int) == 45)=false:=by rw [aaF];omega
 have e4:((k:Int) == 4)=false:=by rw [aaF];omega
 have e5:((k:Int) == 5)=false:=by rw [aaF];omega
 have e19:((k:Int) == 19)=false:=by rw [aaF];omega
 have e20:((k:Int) == 20)=false:=by rw [aaF];omega
 have e21:((k:Int) == 21)=false:=by rw [aaF];omega
 have e22:((k:Int) == 22)=false:=by rw [aaF];omega
 have e25:((k:Int) == 25)=false:=by rw [aaF];omega
 have e43:((k:Int) == 43)=false:=by rw [aaF];omega
 have e44:((k:Int) == 44)=false:=by rw [aaF];omega
 have e24:((k:Int) == 24)=false:=by rw [aaF];omega
 have e26:((k:Int) == 26)=false:=by rw [aaF];omega
 have e30:((k:Int) == 30)=false:=by rw [aaF];omega
 have e31:((k:Int) == 31)=false:=by rw [aaF];omega
 have e33:((k:Int) == 33)=false:=by rw [aaF];omega
 have e34:((k:Int) == 34)=false:=by rw [aaF];omega
 have e40:((k:Int) == 40)=false:=by rw [aaF];omega
 have e41:((k:Int) == 41)=false:=by rw [aaF];omega
 have e42:((k:Int) == 42)=false:=by rw [aaF];omega
 have e46:((k:Int) == 46)=false:=by rw [aaF];omega
 have a1:decide ((6:Int)≤(k:Int))=true:=aaU (by omega);have a2:decide ((k:Int)≤(18:Int))=false:=aaV (by omega);have HSH:=hid (show Mist.shapeOf k n=none from (by unfold Mist.shapeOf;repeat (first | rw [if_neg (by omega)] | rw [if_pos (by omega)])));have e23b:((k:Int) == 23)=false:=by rw [aaF];omega
 go_in
 go_wp2_with fail;refine (aG _ _).mono ?_;rintro e w1⟨rfl,hb1⟩;go_wp2_with fail;refine (aG _ _).mono ?_;rintro e w2⟨rfl,hb2⟩;go_wp2_with fail;refine (aG _ _).mono ?_;rintro e w3⟨rfl,hb3⟩;have HF:=hid (fP hb1 hb2 hb3);have hz:=HF.out.1;clear hb1 hb2 hb3;go_upto_region 5 with (fail)
 obtain⟨w5,hw,cu,iU,jO,vS,hs7,Dv,-,lG,-,-,-⟩:=HF.out.2;rw [hw];clear hw hz HF;have o0:=lG.out.cell 0;have o1:=lG.out.cell 1;have o2:=lG.out.cell 2;have Uk:=lG.out.lt;have p0:=iU.out.cell 0;have p2:=iU.out.cell 2;have q0:=cu.out.cell 0;have q1:=cu.out.cell 1;have q2:=cu.out.cell 2;have q3:=cu.out.cell 3;have r0:=cu.out.frozen 0;have r1:=cu.out.frozen 1;have r2:=cu.out.frozen 2;have r3:=cu.out.frozen 3;go_wp2_with fail;have hp5:=iU.out.lt;have hne:w.heap.size ≠ w3.heap.size:=fun e=>cu.out.ne_ lG.out (by decide) (by rw [e])
 go_region_held3 (fun w'=>w'.cell? ⟨w.heap.size,0,none⟩=some (.int .u8 k)∧w'.cell? ⟨w3.heap.size+1,0,none⟩=some (.int .i64 2)∧w'.cell? ⟨w3.heap.size+1,1,none⟩=some (.int .i64 2)∧w'.cell? ⟨w3.heap.size+1,2,none⟩=some (.func (.func 69) #[] #[]))
  (first | go_keep|(go_split_ands;refine⟨?_,?_,?_,?_⟩ <;> assumption)|(go_split_ands;refine⟨?_,?_,?_,?_⟩ <;> go_keep))
  ((go_at_call 158;refine (uo _ _ _ _).mono ?_;rintro e w6⟨rfl,hb6⟩;have TB:=hid hb6;have xG:=hid (show aC w6 w.heap.size 50 #[.int .u8 k,.string (aM x),.int .i64 n,.slice Ak nk ck,.int .i64 a] from aC.below (by repeat (first|(with_reducible exact iU.out)|(with_reducible refine aC.alloc ?_ _)|(with_reducible refine aC.drew ?_))) hb6 (by first | omega|(simp;omega)));have QX:=hid (show aC w6 (w3.heap.size+1) 152 #[.int .i64 2,.int .i64 2,.func (.func 69) #[] #[]] from aC.below (by repeat (first|(with_reducible exact lG.out)|(with_reducible refine aC.alloc ?_ _)|(with_reducible refine aC.drew ?_))) hb6 (by first | omega|(simp;omega)));have dA:=hid (show aC w6 (w.heap.size+1) 119 #[.bool false,.int .i64 0,.int .i64 0,.slice none 0 0] from aC.below (by repeat (first|(with_reducible exact cu.out)|(with_reducible refine aC.alloc ?_ _)|(with_reducible refine aC.drew ?_))) hb6 (by first | omega|(simp;omega)));have kT:=hid (show Below w.heap.size w w6 from Below.trans (by repeat (first|(with_reducible exact jO.out)|(with_reducible refine ah ?_ ?_)|(with_reducible refine Below.drew ?_) | omega|(simp;omega))) (hb6.mono (by first | omega|(simp;omega))));clear hb6 p0 p2 q0 q1 q2 q3 r0 r1 r2 r3 o0 o1 o2;have p0:=xG.out.cell 0;have o0:=QX.out.cell 0;have o1:=QX.out.cell 1;have o2:=QX.out.cell 2;have q0:=dA.out.cell 0;have q1:=dA.out.cell 1;have q2:=dA.out.cell 2;have q3:=dA.out.cell 3;have r0:=dA.out.frozen 0;have r1:=dA.out.frozen 1;have r2:=dA.out.frozen 2;have r3:=dA.out.frozen 3;have hs9:=dA.out.lt))
 all_goals
  go_wp2_with fail;refine bodyPost_ret (v:=.tuple #[.agg #[.bool false,.int .i64 0,.int .i64 0,.slice (some ⟨w5.heap.size,0,none⟩) 1 1],.bool false]) (by simp [results,Tryz.f103,go_sem,q0,q1,q2,q3]) rfl ?_
  refine⟨_,_,_,_,_,_,_,rfl,?_,?_⟩
  ·repeat (first|(with_reducible exact kT.out)|(with_reducible refine dx ?_ ?_)|(with_reducible refine ah ?_ ?_)|(with_reducible refine Below.drew ?_) | omega|(simp;omega))
  ·rw [HSH.out]
theorem zi {P:Program}{md:Region.Mode}{l:List Oper}{Q:Exit→Act→World→Prop}{S:World→Prop}{i:Nat}{oi:Oper}{fuel:Nat}{listed:Array Bool}{a:Act}{w:World}(hi:Nth l i oi)
  (hs:Region.noSelect l.toArray=true) (hf:Region.free md l.toArray listed i=true) (hr:(Region.ready md l.toArray listed).contains i=true)
  (hQ:∀ c a w,Q (.panic c) (a.put oi.dst undef) w→Q (.panic c) a w) (hy:Region.wanted oi (yielded l.toArray a.tmps)=false) (hS:S w)
  (h:wpAnyH P md l.toArray Q S fuel (listed.setIfInBounds i true) (a.put oi.dst undef) w):wpAnyH P md l.toArray Q S (fuel+1) listed a w :=
 wpAnyH_take hi.get hs hf hr hQ (Or.inr ⟨hy,rfl⟩) hS h
theorem shape_op (k:Nat)(x:Bs)(n a:Int)(Ak:Option Addr)(nk ck:Nat)(w:World)(h:6≤k∧k≤18):Calls Tryz.prog 103 #[.agg #[.int .u8 k,.string (aM x),.int .i64 n,.slice Ak nk ck,.int .i64 a]] w (eB (Mist.shapeOf k n) w):=by
 have e1:((k:Int) == 1)=false:=by rw [aaF];omega
 have e2:((k:Int) == 2)=false:=by rw [aaF];omega
 have e3:((k:Int) == 3)=false:=by rw [aaF];omega
 have e32:((k:Int) == 32)=false:=by rw [aaF];omega
 have e45:((k:Int) == 45)=false:=by rw [aaF];omega
 have e4:((k:Int) == 4)=false:=by rw [aaF];omega
 have e5:((k:Int) == 5)=false:=by rw [aaF];omega
 have e19:((k:Int) == 19)=false:=by rw [aaF];omega
 have e20:((k:Int) == 20)=false:=by rw [aaF];omega
 have e21:((k:Int) == 21)=false:=by rw [aaF];omega
 have e22:((k:Int) == 22)=false:=by rw [aaF];omega
 have e25:((k:Int) == 25)=false:=by rw [aaF];omega
 have e43:((k:Int) == 43)=false:=by rw [aaF];omega
 have e44:((k:Int) == 44)=false:=by rw [aaF];omega
 have e24:((k:Int) == 24)=false:=by rw [aaF];omega
 have e26:((k:Int) == 26)=false:=by rw [aaF];omega
 have e30:((k:Int) == 30)=false:=by rw [aaF];omega
 have e31:((k:Int) == 31)=false:=by rw [aaF];omega
 have e33:((k:Int) == 33)=false:=by rw [aaF];omega
 have e34:((k:Int) == 34)=false:=by rw [aaF];omega
 have e40:((k:Int) == 40)=false:=by rw [aaF];omega
 have e41:((k:Int) == 41)=false:=by rw [aaF];omega
 have e42:((k:Int) == 42)=false:=by rw [aaF];omega
 have e46:((k:Int) == 46)=false:=by rw [aaF];omega
 have a1:decide ((6:Int)≤(k:Int))=true:=aaU (by omega);have a2:decide ((k:Int)≤(18:Int))=true:=aaU (by omega);have HSH:=hid (show Mist.shapeOf k n=some ⟨false,0,0,[⟨2,2,.expr⟩]⟩ from (by unfold Mist.shapeOf;repeat (first | rw [if_neg (by omega)] | rw [if_pos (by omega)])));go_in
 go_wp2_with fail;refine (aG _ _).mono ?_;rintro e w1⟨rfl,hb1⟩;go_wp2_with fail;refine (aG _ _).mono ?_;rintro e w2⟨rfl,hb2⟩;go_wp2_with fail;refine (aG _ _).mono ?_;rintro e w3⟨rfl,hb3⟩;have HF:=hid (fP hb1 hb2 hb3);have hz:=HF.out.1;clear hb1 hb2 hb3;go_upto_region 5 with (fail)
 obtain⟨w5,hw,cu,iU,jO,vS,hs7,Dv,-,lG,-,-,-⟩:=HF.out.2;rw [hw];clear hw hz HF;have o0:=lG.out.cell 0;have o1:=lG.out.cell 1;have o2:=lG.out.cell 2;have Uk:=lG.out.lt;have p0:=iU.out.cell 0;have p2:=iU.out.cell 2;have q0:=cu.out.cell 0;have q1:=cu.out.cell 1;have q2:=cu.out.cell 2;have q3:=cu.out.cell 3;have r0:=cu.out.frozen 0;have r1:=cu.out.frozen 1;have r2:=cu.out.frozen 2;have r3:=cu.out.frozen 3;go_wp2_with fail;have hp5:=iU.out.lt;have hne:w.heap.size ≠ w3.heap.size:=fun e=>cu.out.ne_ lG.out (by decide) (by rw [e])
 refine wp_region_noPanic ?_;refine wp_region_held_drew (S:=fun w'=>w'.cell? ⟨w.heap.size,0,none⟩=some (.int .u8 k)∧w'.cell? ⟨w3.heap.size+1,0,none⟩=some (.int .i64 2)∧w'.cell? ⟨w3.heap.size+1,1,none⟩=some (.int .i64 2)∧w'.cell? ⟨w3.heap.size+1,2,none⟩=some (.func (.func 69) #[] #[])) (by kernel_rfl) ⟨p0,o0,o1,o2⟩ (fun hHeld=>?_);refine bf 0 rfl hHeld ?_;simp only [Act.put,aaA,aaB,aaC];refine bf 1 rfl hHeld ?_;simp only [Act.put,aaA,aaB,aaC];refine bf 4 rfl hHeld ?_;simp only [Act.put,aaA,aaB,aaC];refine bf 5 rfl hHeld ?_;simp only [Act.put,aaA,aaB,aaC];refine bf 6 rfl hHeld ?_;simp only [Act.put,aaA,aaB,aaC];refine wpAnyH_ready (rs:=[2]) (by kernel_rfl) (by simp) ?_;refine fJ (.s (.s .z)) (fun K hK=>?_);go_simp;refine hK.out _ _ ?_ (fun Mf=>?_)
 ·(refine⟨?_,?_,?_,?_⟩ <;> go_keep)
 (try simp only [Act.put,aaA,aaB,aaC])
 refine wpAnyH_ready (rs:=[3]) (by kernel_rfl) (by simp) ?_;refine fJ (.s (.s (.s .z))) (fun K hK=>?_);go_simp;refine (uo _ _ _ _).mono ?_;rintro e w6⟨rfl,hb6⟩;have TB:=hid hb6;have xG:=hid (show aC w6 w.heap.size 50 #[.int .u8 k,.string (aM x),.int .i64 n,.slice Ak nk ck,.int .i64 a] from aC.below (by repeat (first|(with_reducible exact iU.out)|(with_reducible refine aC.alloc ?_ _)|(with_reducible refine aC.drew ?_))) hb6 (by first | omega|(simp;omega)));have QX:=hid (show aC w6 (w3.heap.size+1) 152 #[.int .i64 2,.int .i64 2,.func (.func 69) #[] #[]] from aC.below (by repeat (first|(with_reducible exact lG.out)|(with_reducible refine aC.alloc ?_ _)|(with_reducible refine aC.drew ?_))) hb6 (by first | omega|(simp;omega)));have dA:=hid (show aC w6 (w.heap.size+1) 119 #[.bool false,.int .i64 0,.int .i64 0,.slice none 0 0] from aC.below (by repeat (first|(with_reducible exact cu.out)|(with_reducible refine aC.alloc ?_ _)|(with_reducible refine aC.drew ?_))) hb6 (by first | omega|(simp;omega)));have kT:=hid (show Below w.heap.size w w6 from Below.trans (by repeat (first|(with_reducible exact jO.out)|(with_reducible refine ah ?_ ?_)|(with_reducible refine Below.drew ?_) | omega|(simp;omega))) (hb6.mono (by first | omega|(simp;omega))));clear hb6 p0 p2 q0 q1 q2 q3 r0 r1 r2 r3 o0 o1 o2;have p0:=xG.out.cell 0;have o0:=QX.out.cell 0;have o1:=QX.out.cell 1;have o2:=QX.out.cell 2;have q0:=dA.out.cell 0;have q1:=dA.out.cell 1;have q2:=dA.out.cell 2;have q3:=dA.out.cell 3;have r0:=dA.out.frozen 0;have r1:=dA.out.frozen 1;have r2:=dA.out.frozen 2;have r3:=dA.out.frozen 3;have hs9:=dA.out.lt;clear hHeld Mf;refine hK.out _ _ ⟨p0,o0,o1,o2⟩ (fun kM=>?_)
 (try simp only [Act.put,aaA,aaB,aaC])
 refine bf 7 rfl kM ?_;simp only [Act.put,aaA,aaB,aaC];refine bf 8 rfl kM ?_;simp only [Act.put,aaA,aaB,aaC];refine bf 9 rfl kM ?_;simp only [Act.put,aaA,aaB,aaC];refine lY (i:=10) (.s (.s (.s (.s (.s (.s (.s (.s (.s (.s .z)))))))))) (by kernel_rfl) (by kernel_rfl) (by kernel_rfl) (fun _ _ _ h=>h) (v:=?_) ⟨by rfl,?_⟩ kM ?_;rotate_left
 ·(intro w0 hSw;(try dsimp only at hSw);go_split_ands;go_simp;try with_reducible rfl)
 simp only [Act.put,aaA,aaB,aaC];refine lY (i:=11) (.s (.s (.s (.s (.s (.s (.s (.s (.s (.s (.s .z))))))))))) (by kernel_rfl) (by kernel_rfl) (by kernel_rfl) (fun _ _ _ h=>h) (v:=?_) ⟨by rfl,?_⟩ kM ?_;rotate_left
 ·(intro w0 hSw;(try dsimp only at hSw);go_split_ands;go_simp;try with_reducible rfl)
 simp only [Act.put,aaA,aaB,aaC];refine lY (i:=12) (.s (.s (.s (.s (.s (.s (.s (.s (.s (.s (.s (.s .z)))))))))))) (by kernel_rfl) (by kernel_rfl) (by kernel_rfl) (fun _ _ _ h=>h) (v:=?_) ⟨by rfl,?_⟩ kM ?_;rotate_left
 ·(intro w0 hSw;(try dsimp only at hSw);go_split_ands;go_simp;try with_reducible rfl)
 simp only [Act.put,aaA,aaB,aaC];refine zi (i:=13) (.s (.s (.s (.s (.s (.s (.s (.s (.s (.s (.s (.s (.s .z))))))))))))) (by kernel_rfl) (by kernel_rfl) (by kernel_rfl) (fun _ _ _ h=>h) (by rfl) kM ?_;simp only [Act.put,aaA,aaB,aaC];refine zi (i:=14) (.s (.s (.s (.s (.s (.s (.s (.s (.s (.s (.s (.s (.s (.s .z)))))))))))))) (by kernel_rfl) (by kernel_rfl) (by kernel_rfl) (fun _ _ _ h=>h) (by rfl) kM ?_;simp only [Act.put,aaA,aaB,aaC];refine zi (i:=15) (.s (.s (.s (.s (.s (.s (.s (.s (.s (.s (.s (.s (.s (.s (.s .z))))))))))))))) (by kernel_rfl) (by kernel_rfl) (by kernel_rfl) (fun _ _ _ h=>h) (by rfl) kM ?_;simp only [Act.put,aaA,aaB,aaC];refine lY (i:=16) (.s (.s (.s (.s (.s (.s (.s (.s (.s (.s (.s (.s (.s (.s (.s (.s .z)))))))))))))))) (by kernel_rfl) (by kernel_rfl) (by kernel_rfl) (fun _ _ _ h=>h) (v:=?_) ⟨by rfl,?_⟩ kM ?_;rotate_left
 ·(intro w0 hSw;(try dsimp only at hSw);go_split_ands;go_simp;try with_reducible rfl)
 simp only [Act.put,aaA,aaB,aaC];refine wpAnyH_ready (rs:=[17]) (by kernel_rfl) (by simp) ?_;refine fJ (.s (.s (.s (.s (.s (.s (.s (.s (.s (.s (.s (.s (.s (.s (.s (.s (.s .z))))))))))))))))) (fun K hK=>?_);go_simp;refine hK.out _ _ ?_ (fun RN=>?_)
 ·(refine⟨?_,?_,?_,?_⟩ <;> go_keep)
 (try simp only [Act.put,aaA,aaB,aaC])
 refine lY (i:=18) (.s (.s (.s (.s (.s (.s (.s (.s (.s (.s (.s (.s (.s (.s (.s (.s (.s (.s .z)))))))))))))))))) (by kernel_rfl) (by kernel_rfl) (by kernel_rfl) (fun _ _ _ h=>h) (v:=?_) ⟨by rfl,?_⟩ RN ?_;rotate_left
 ·(intro w0 hSw;(try dsimp only at hSw);go_split_ands;go_simp;try with_reducible rfl)
 simp only [Act.put,aaA,aaB,aaC];refine wpAnyH_done (by kernel_rfl) (NoPanic.normal ?_) _;go_wp2_with fail;refine bodyPost_ret (v:=.tuple #[.agg #[.bool false,.int .i64 0,.int .i64 0,.slice (some ⟨w5.heap.size,0,none⟩) 1 1],.bool true]) (by simp [results,Tryz.f103,go_sem,q0,q1,q2,q3]) rfl ?_
 refine⟨_,_,_,_,_,_,_,rfl,?_,?_⟩
 ·repeat (first|(with_reducible exact kT.out)|(with_reducible refine dx ?_ ?_)|(with_reducible refine ah ?_ ?_)|(with_reducible refine Below.drew ?_) | omega|(simp;omega))
 ·rw [HSH.out]
  refine⟨rfl,rfl,rfl,rfl,rfl,aaJ _,?_⟩
  refine dS.one (T:=152) ?_;have hq:=(aC.drew (aC.new w5 152 #[.int .i64 2,.int .i64 2,.func (.func 69) #[] #[]])).below TB.out (by simp)
  repeat (first|(with_reducible refine aC.far ?_ ?_ _)|(with_reducible refine aC.drew ?_) | exact hq|(simp;omega))
theorem shape_k0 (x:Bs)(n a:Int)(Ak:Option Addr)(nk ck:Nat)(w:World):Calls Tryz.prog 103 #[.agg #[.int .u8 0,.string (aM x),.int .i64 n,.slice Ak nk ck,.int .i64 a]] w (eB (Mist.shapeOf 0 n) w):=by
 have HSH:=hid (show Mist.shapeOf 0 n=none from rfl);go_in
 go_wp2_with fail;refine (aG _ _).mono ?_;rintro e w1⟨rfl,hb1⟩;go_wp2_with fail;refine (aG _ _).mono ?_;rintro e w2⟨rfl,hb2⟩;go_wp2_with fail;refine (aG _ _).mono ?_;rintro e w3⟨rfl,hb3⟩;have HF:=hid (fP hb1 hb2 hb3);have hz:=HF.out.1;clear hb1 hb2 hb3;go_upto_region 5 with (fail)
 obtain⟨w5,hw,cu,iU,jO,vS,hs7,Dv,-,lG,-,-,-⟩:=HF.out.2;rw [hw];clear hw hz HF;have o0:=lG.out.cell 0;have o1:=lG.out.cell 1;have o2:=lG.out.cell 2;have Uk:=lG.out.lt;have p0:=iU.out.cell 0;have p2:=iU.out.cell 2;have q0:=cu.out.cell 0;have q1:=cu.out.cell 1;have q2:=cu.out.cell 2;have q3:=cu.out.cell 3;have r0:=cu.out.frozen 0;have r1:=cu.out.frozen 1;have r2:=cu.out.frozen 2;have r3:=cu.out.frozen 3;go_wp2_with fail;have hp5:=iU.out.lt;have hne:w.heap.size ≠ w3.heap.size:=fun e=>cu.out.ne_ lG.out (by decide) (by rw [e])
 refine wp_region_noPanic ?_;refine wp_region_held_drew (S:=fun w'=>w'.cell? ⟨w.heap.size,0,none⟩=some (.int .u8 0)∧w'.cell? ⟨w3.heap.size+1,0,none⟩=some (.int .i64 2)∧w'.cell? ⟨w3.heap.size+1,1,none⟩=some (.int .i64 2)∧w'.cell? ⟨w3.heap.size+1,2,none⟩=some (.func (.func 69) #[] #[])) (by kernel_rfl) ⟨p0,o0,o1,o2⟩ (fun hHeld=>?_);refine bf 0 rfl hHeld ?_;simp only [Act.put,aaA,aaB,aaC];refine bf 1 rfl hHeld ?_;simp only [Act.put,aaA,aaB,aaC];refine bf 4 rfl hHeld ?_;simp only [Act.put,aaA,aaB,aaC];refine bf 5 rfl hHeld ?_;simp only [Act.put,aaA,aaB,aaC];refine bf 6 rfl hHeld ?_;simp only [Act.put,aaA,aaB,aaC];refine wpAnyH_ready (rs:=[2]) (by kernel_rfl) (by simp) ?_;refine fJ (.s (.s .z)) (fun K hK=>?_);go_simp;refine hK.out _ _ ?_ (fun Mf=>?_)
 ·(refine⟨?_,?_,?_,?_⟩ <;> go_keep)
 (try simp only [Act.put,aaA,aaB,aaC])
 refine wpAnyH_ready (rs:=[3]) (by kernel_rfl) (by simp) ?_;refine fJ (.s (.s (.s .z))) (fun K hK=>?_);go_simp;refine (uo _ _ _ _).mono ?_;rintro e w6⟨rfl,hb6⟩;have TB:=hid hb6;have xG:=hid (show aC w6 w.heap.size 50 #[.int .u8 0,.string (aM x),.int .i64 n,.slice Ak nk ck,.int .i64 a] from aC.below (by repeat (first|(with_reducible exact iU.out)|(with_reducible refine aC.alloc ?_ _)|(with_reducible refine aC.drew ?_))) hb6 (by first | omega|(simp;omega)));have QX:=hid (show aC w6 (w3.heap.size+1) 152 #[.int .i64 2,.int .i64 2,.func (.func 69) #[] #[]] from aC.below (by repeat (first|(with_reducible exact lG.out)|(with_reducible refine aC.alloc ?_ _)|(with_reducible refine aC.drew ?_))) hb6 (by first | omega|(simp;omega)));have dA:=hid (show aC w6 (w.heap.size+1) 119 #[.bool false,.int .i64 0,.int .i64 0,.slice none 0 0] from aC.below (by repeat (first|(with_reducible exact cu.out)|(with_reducible refine aC.alloc ?_ _)|(with_reducible refine aC.drew ?_))) hb6 (by first | omega|(simp;omega)));have kT:=hid (show Below w.heap.size w w6 from Below.trans (by repeat (first|(with_reducible exact jO.out)|(with_reducible refine ah ?_ ?_)|(with_reducible refine Below.drew ?_) | omega|(simp;omega))) (hb6.mono (by first | omega|(simp;omega))));clear hb6 p0 p2 q0 q1 q2 q3 r0 r1 r2 r3 o0 o1 o2;have p0:=xG.out.cell 0;have o0:=QX.out.cell 0;have o1:=QX.out.cell 1;have o2:=QX.out.cell 2;have q0:=dA.out.cell 0;have q1:=dA.out.cell 1;have q2:=dA.out.cell 2;have q3:=dA.out.cell 3;have r0:=dA.out.frozen 0;have r1:=dA.out.frozen 1;have r2:=dA.out.frozen 2;have r3:=dA.out.frozen 3;have hs9:=dA.out.lt;clear hHeld Mf;refine hK.out _ _ ⟨p0,o0,o1,o2⟩ (fun kM=>?_)
 (try simp only [Act.put,aaA,aaB,aaC])
 refine bf 7 rfl kM ?_;simp only [Act.put,aaA,aaB,aaC];refine zi (i:=8) (.s (.s (.s (.s (.s (.s (.s (.s .z)))))))) (by kernel_rfl) (by kernel_rfl) (by kernel_rfl) (fun _ _ _ h=>h) (by rfl) kM ?_;simp only [Act.put,aaA,aaB,aaC];refine zi (i:=9) (.s (.s (.s (.s (.s (.s (.s (.s (.s .z))))))))) (by kernel_rfl) (by kernel_rfl) (by kernel_rfl) (fun _ _ _ h=>h) (by rfl) kM ?_;simp only [Act.put,aaA,aaB,aaC];refine zi (i:=10) (.s (.s (.s (.s (.s (.s (.s (.s (.s (.s .z)))))))))) (by kernel_rfl) (by kernel_rfl) (by kernel_rfl) (fun _ _ _ h=>h) (by rfl) kM ?_;simp only [Act.put,aaA,aaB,aaC];refine lY (i:=11) (.s (.s (.s (.s (.s (.s (.s (.s (.s (.s (.s .z))))))))))) (by kernel_rfl) (by kernel_rfl) (by kernel_rfl) (fun _ _ _ h=>h) (v:=?_) ⟨by rfl,?_⟩ kM ?_;rotate_left
 ·(intro w0 hSw;(try dsimp only at hSw);go_split_ands;go_simp;try with_reducible rfl)
 simp only [Act.put,aaA,aaB,aaC];refine lY (i:=12) (.s (.s (.s (.s (.s (.s (.s (.s (.s (.s (.s (.s .z)))))))))))) (by kernel_rfl) (by kernel_rfl) (by kernel_rfl) (fun _ _ _ h=>h) (v:=?_) ⟨by rfl,?_⟩ kM ?_;rotate_left
 ·(intro w0 hSw;(try dsimp only at hSw);go_split_ands;go_simp;try with_reducible rfl)
 simp only [Act.put,aaA,aaB,aaC];refine lY (i:=13) (.s (.s (.s (.s (.s (.s (.s (.s (.s (.s (.s (.s (.s .z))))))))))))) (by kernel_rfl) (by kernel_rfl) (by kernel_rfl) (fun _ _ _ h=>h) (v:=?_) ⟨by rfl,?_⟩ kM ?_;rotate_left
 ·(intro w0 hSw;(try dsimp only at hSw);go_split_ands;go_simp;try with_reducible rfl)
 simp only [Act.put,aaA,aaB,aaC];refine lY (i:=14) (.s (.s (.s (.s (.s (.s (.s (.s (.s (.s (.s (.s (.s (.s .z)))))))))))))) (by kernel_rfl) (by kernel_rfl) (by kernel_rfl) (fun _ _ _ h=>h) (v:=?_) ⟨by rfl,?_⟩ kM ?_;rotate_left
 ·(intro w0 hSw;(try dsimp only at hSw);go_split_ands;go_simp;try with_reducible rfl)
 simp only [Act.put,aaA,aaB,aaC];refine lY (i:=15) (.s (.s (.s (.s (.s (.s (.s (.s (.s (.s (.s (.s (.s (.s (.s .z))))))))))))))) (by kernel_rfl) (by kernel_rfl) (by kernel_rfl) (fun _ _ _ h=>h) (v:=?_) ⟨by rfl,?_⟩ kM ?_;rotate_left
 ·(intro w0 hSw;(try dsimp only at hSw);go_split_ands;go_simp;try with_reducible rfl)
 simp only [Act.put,aaA,aaB,aaC];refine lY (i:=16) (.s (.s (.s (.s (.s (.s (.s (.s (.s (.s (.s (.s (.s (.s (.s (.s .z)))))))))))))))) (by kernel_rfl) (by kernel_rfl) (by kernel_rfl) (fun _ _ _ h=>h) (v:=?_) ⟨by rfl,?_⟩ kM ?_;rotate_left
 ·(intro w0 hSw;(try dsimp only at hSw);go_split_ands;go_simp;try with_reducible rfl)
 simp only [Act.put,aaA,aaB,aaC];refine wpAnyH_ready (rs:=[17]) (by kernel_rfl) (by simp) ?_;refine fJ (.s (.s (.s (.s (.s (.s (.s (.s (.s (.s (.s (.s (.s (.s (.s (.s (.s .z))))))))))))))))) (fun K hK=>?_);go_simp;refine hK.out _ _ ?_ (fun RN=>?_)
 ·(refine⟨?_,?_,?_,?_⟩ <;> go_keep)
 (try simp only [Act.put,aaA,aaB,aaC])
 refine lY (i:=18) (.s (.s (.s (.s (.s (.s (.s (.s (.s (.s (.s (.s (.s (.s (.s (.s (.s (.s .z)))))))))))))))))) (by kernel_rfl) (by kernel_rfl) (by kernel_rfl) (fun _ _ _ h=>h) (v:=?_) ⟨by rfl,?_⟩ RN ?_;rotate_left
 ·(intro w0 hSw;(try dsimp only at hSw);go_split_ands;go_simp;try with_reducible rfl)
 simp only [Act.put,aaA,aaB,aaC];refine wpAnyH_done (by kernel_rfl) (NoPanic.normal ?_) _;go_wp2_with fail;refine bodyPost_ret (v:=.tuple #[.agg #[.bool false,.int .i64 0,.int .i64 0,.slice (some ⟨w5.heap.size,0,none⟩) 1 1],.bool false]) (by simp [results,Tryz.f103,go_sem,q0,q1,q2,q3]) rfl ?_
 refine⟨_,_,_,_,_,_,_,rfl,?_,?_⟩
 ·repeat (first|(with_reducible exact kT.out)|(with_reducible refine dx ?_ ?_)|(with_reducible refine ah ?_ ?_)|(with_reducible refine Below.drew ?_) | omega|(simp;omega))
 ·rw [HSH.out]
end Go.Proofs.YthepmkjggfijoaaGreatDoor
namespace Go.Proofs.YthepmkjggfijoaaGreatDoor
open Go.RowKit Mist
theorem Pz (k:Nat)(x:Bs)(n a:Int)(Ak:Option Addr)(nk ck:Nat)(w:World):Calls Tryz.prog 103 #[.agg #[.int .u8 k,.string (aM x),.int .i64 n,.slice Ak nk ck,.int .i64 a]] w (eB (Mist.shapeOf k n) w):=by
 have hcase:k=0∨((27≤k∧k≤29)∨(35≤k∧k≤39)∨47≤k)∨k=1∨k=2∨k=3∨k=32∨k=45∨k=4∨k=5∨(6≤k∧k≤18)∨k=23∨k=19∨k=20∨k=21∨k=22∨k=25∨k=43∨k=44∨k=24∨k=26∨k=30∨k=31∨k=33∨k=34∨k=40∨k=41∨k=42∨k=46:=by omega
 rcases hcase with rfl | h | rfl | rfl | rfl | rfl | rfl | rfl | rfl | h | rfl | rfl | rfl | rfl | rfl | rfl | rfl | rfl | rfl | rfl | rfl | rfl | rfl | rfl | rfl | rfl | rfl | rfl
 ·exact shape_k0 x n a Ak nk ck w
 ·exact SY k x n a Ak nk ck w h
 ·exact shape_k1 x n a Ak nk ck w
 ·exact shape_k2 x n a Ak nk ck w
 ·exact shape_k3 x n a Ak nk ck w
 ·exact WQ x n a Ak nk ck w
 ·exact WY x n a Ak nk ck w
 ·exact shape_k4 x n a Ak nk ck w
 ·exact shape_k5 x n a Ak nk ck w
 ·exact shape_op k x n a Ak nk ck w h
 ·exact WI x n a Ak nk ck w
 ·exact WC x n a Ak nk ck w
 ·exact WE x n a Ak nk ck w
 ·exact WG x n a Ak nk ck w
 ·exact WH x n a Ak nk ck w
 ·exact WK x n a Ak nk ck w
 ·exact WW x n a Ak nk ck w
 ·exact WX x n a Ak nk ck w
 ·exact WJ x n a Ak nk ck w
 ·exact WL x n a Ak nk ck w
 ·exact WM x n a Ak nk ck w
 ·exact WO x n a Ak nk ck w
 ·exact WR x n a Ak nk ck w
 ·exact WS x n a Ak nk ck w
 ·exact WT x n a Ak nk ck w
 ·exact WU x n a Ak nk ck w
 ·exact WV x n a Ak nk ck w
 ·exact WZ x n a Ak nk ck w
end Go.Proofs.YthepmkjggfijoaaGreatDoor
