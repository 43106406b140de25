/-
  PARTS of the proof: N6G, N6H, N6I.
-/
import Derived.Deep.Cut
import Derived.Deep.RegionHeld3
import Derived.Deep.RegionWith
import Derived.Test.YthepmkjggfijoaaGreatDoorB08
import Derived.Test.YthepmkjggfijoaaGreatDoorB22
set_option linter.all false
set_option maxRecDepth 100000
set_option maxHeartbeats 4000000
open Go.Lib (hid)
namespace Go.Proofs.YthepmkjggfijoaaGreatDoor
open Go.RowKit Mist
attribute [local go_sem] ofL_extract ofL_size ofL_get ofL_bytes ofL_append
theorem PartsIn.three {w:World} {b:Nat} {p q r:Part} (h:Blk w b 152 (partV p ++ partV q ++ partV r).toArray):PartsIn w (some ⟨b,0,none⟩) [p,q,r]:=by
 refine⟨fun _=>⟨b,rfl,h.lt,fun j x hj=>?_⟩⟩
 match j,hj with
 | 0, hj => obtain rfl : p = x := by simpa using hj
            exact⟨h.cell 0,h.cell 1,h.cell 2⟩
 | 1, hj => obtain rfl : q = x := by simpa using hj
            exact⟨h.cell 3,h.cell 4,h.cell 5⟩
 | 2, hj => obtain rfl : r = x := by simpa using hj
            exact⟨h.cell 6,h.cell 7,h.cell 8⟩
 | j+3,hj=>simp at hj
theorem just_exact (n:Int) (w:World):Calls Tryz.prog 157 #[.int .i64 n,.func (.func 161) #[] #[]] w fun e w'=>e=.returned (.agg #[.int .i64 n,.int .i64 n,.func (.func 161) #[] #[]])∧w'=w.alloc (.cells #[.int .i64 n,.int .i64 n,.func (.func 161) #[] #[]] 152):=by
 go_enter Tryz.func157,Tryz.ntmps157
 go_wp2
 exact bodyPost_ret (v:=.agg #[.int .i64 n,.int .i64 n,.func (.func 161) #[] #[]]) (by simp [results,Tryz.f157,go_sem]) rfl ⟨rfl,rfl⟩
theorem shape_k42 (x:Bs) (n a:Int) (Ak:Option Addr) (nk ck:Nat) (w:World):Calls Tryz.prog 103 #[.agg #[.int .u8 42,.string (ofL x),.int .i64 n,.slice Ak nk ck,.int .i64 a]] w (ShapePost (Mist.shapeOf 42 n) w):=by
 go_enter Tryz.func103,Tryz.ntmps103
 go_wp2_with fail
 refine (just_expr _ _).mono ?_
 rintro e w1 ⟨rfl,hb1⟩
 go_wp2_with fail
 refine (just_expr _ _).mono ?_
 rintro e w2 ⟨rfl,hb2⟩
 go_wp2_with fail
 refine (just_expr _ _).mono ?_
 rintro e w3 ⟨rfl,hb3⟩
 obtain⟨hB0,hB1,hL3⟩:=pre_facts hb1 hb2 hb3
 have HL3:=hid hL3
 have HB1:=hid hB1
 have HB0:=hid hB0
 have hz:=hB1.lt
 clear hB0 hB1 hL3 hb1 hb2 hb3
 go_upto_region 5 with (fail)
 have HB5:=hid (show Blk (((((w3.alloc (.cells #[.int .i64 1,.int .i64 1,.func (.func 69) #[] #[]] 152)).alloc (.cells #[.int .i64 2,.int .i64 2,.func (.func 69) #[] #[]] 152)).alloc (.cells #[.int .i64 3,.int .i64 3,.func (.func 69) #[] #[]] 152)).alloc (.cells #[.int .i64 0,.int .i64 801,.func (.func 69) #[] #[]] 152)).alloc (.cells #[.int .i64 1,.int .i64 801,.func (.func 69) #[] #[]] 152)) (w.heap.size+1) 119 #[.bool false,.int .i64 0,.int .i64 0,.slice none 0 0] from by repeat (first | (with_reducible exact HB1.out) | (with_reducible refine Blk.alloc ?_ _)))
 have HP5:=hid (show Blk (((((w3.alloc (.cells #[.int .i64 1,.int .i64 1,.func (.func 69) #[] #[]] 152)).alloc (.cells #[.int .i64 2,.int .i64 2,.func (.func 69) #[] #[]] 152)).alloc (.cells #[.int .i64 3,.int .i64 3,.func (.func 69) #[] #[]] 152)).alloc (.cells #[.int .i64 0,.int .i64 801,.func (.func 69) #[] #[]] 152)).alloc (.cells #[.int .i64 1,.int .i64 801,.func (.func 69) #[] #[]] 152)) w.heap.size 50 #[.int .u8 42,.string (ofL x),.int .i64 n,.slice Ak nk ck,.int .i64 a] from by repeat (first | (with_reducible exact HB0.out) | (with_reducible refine Blk.alloc ?_ _)))
 have HL5:=hid (show Below w.heap.size w (((((w3.alloc (.cells #[.int .i64 1,.int .i64 1,.func (.func 69) #[] #[]] 152)).alloc (.cells #[.int .i64 2,.int .i64 2,.func (.func 69) #[] #[]] 152)).alloc (.cells #[.int .i64 3,.int .i64 3,.func (.func 69) #[] #[]] 152)).alloc (.cells #[.int .i64 0,.int .i64 801,.func (.func 69) #[] #[]] 152)).alloc (.cells #[.int .i64 1,.int .i64 801,.func (.func 69) #[] #[]] 152)) from by repeat (first | (with_reducible exact HL3.out) | (with_reducible refine bset ?_ ?_) | (with_reducible refine balloc ?_ ?_) | omega | (simp;omega)))
 have HO5:=hid (show Blk (((((w3.alloc (.cells #[.int .i64 1,.int .i64 1,.func (.func 69) #[] #[]] 152)).alloc (.cells #[.int .i64 2,.int .i64 2,.func (.func 69) #[] #[]] 152)).alloc (.cells #[.int .i64 3,.int .i64 3,.func (.func 69) #[] #[]] 152)).alloc (.cells #[.int .i64 0,.int .i64 801,.func (.func 69) #[] #[]] 152)).alloc (.cells #[.int .i64 1,.int .i64 801,.func (.func 69) #[] #[]] 152)) (w3.heap.size) 152 #[.int .i64 1,.int .i64 1,.func (.func 69) #[] #[]] from by repeat (first | (with_reducible exact blk_top (by first | rfl | simp)) | (with_reducible refine Blk.alloc ?_ _)))
 have hs5:(((((w3.alloc (.cells #[.int .i64 1,.int .i64 1,.func (.func 69) #[] #[]] 152)).alloc (.cells #[.int .i64 2,.int .i64 2,.func (.func 69) #[] #[]] 152)).alloc (.cells #[.int .i64 3,.int .i64 3,.func (.func 69) #[] #[]] 152)).alloc (.cells #[.int .i64 0,.int .i64 801,.func (.func 69) #[] #[]] 152)).alloc (.cells #[.int .i64 1,.int .i64 801,.func (.func 69) #[] #[]] 152)).heap.size=w3.heap.size+1+1+1+1+1:=by simp
 generalize (((((w3.alloc (.cells #[.int .i64 1,.int .i64 1,.func (.func 69) #[] #[]] 152)).alloc (.cells #[.int .i64 2,.int .i64 2,.func (.func 69) #[] #[]] 152)).alloc (.cells #[.int .i64 3,.int .i64 3,.func (.func 69) #[] #[]] 152)).alloc (.cells #[.int .i64 0,.int .i64 801,.func (.func 69) #[] #[]] 152)).alloc (.cells #[.int .i64 1,.int .i64 801,.func (.func 69) #[] #[]] 152))=w5 at HB5 HP5 HL5 hs5 HO5 ⊢
 have o0:=HO5.out.cell 0
 have o1:=HO5.out.cell 1
 have o2:=HO5.out.cell 2
 have ho5:=HO5.out.lt
 have p0:=HP5.out.cell 0
 have p2:=HP5.out.cell 2
 have hs7:w.heap.size+1 < w5.heap.size:=by omega
 have hs8:w.heap.size < w5.heap.size:=by omega
 have HS5:=hid hs5;clear hs5 hz
 have q0:=HB5.out.cell 0
 have q1:=HB5.out.cell 1
 have q2:=HB5.out.cell 2
 have q3:=HB5.out.cell 3
 have r0:=HB5.out.frozen 0
 have r1:=HB5.out.frozen 1
 have r2:=HB5.out.frozen 2
 have r3:=HB5.out.frozen 3
 go_wp2_with fail
 go_region_with ((refine (just_exact _ _).mono ?_;rintro e w6 ⟨rfl,rfl⟩))
 all_goals
  go_wp2_with fail
  refine bodyPost_ret (v:=.tuple #[.agg #[.bool true,.int .i64 0,.int .i64 9223372036854775807,.slice (some ⟨w5.heap.size+1,0,none⟩) 3 3],.bool true]) (by simp [results,Tryz.f103,go_sem,q0,q1,q2,q3,hs7,hs8]) rfl ?_
  refine⟨_,_,_,_,_,_,_,rfl,?_,rfl,rfl,rfl,rfl,rfl,Nat.le_refl _,?_⟩
  ·refine Below.drew ?_
   repeat (first | (with_reducible exact HL5.out) | (with_reducible refine bset ?_ ?_) | (with_reducible refine balloc ?_ ?_) | omega | (simp;omega))
  ·refine PartsIn.three ?_
   refine Blk.drew ?_
   exact blk_top (by simp)
end Go.Proofs.YthepmkjggfijoaaGreatDoor
namespace Go.Proofs.YthepmkjggfijoaaGreatDoor
open Go.RowKit Mist
attribute [local go_sem] ofL_extract ofL_size ofL_get ofL_bytes ofL_append
theorem shape_k23 (x:Bs) (n a:Int) (Ak:Option Addr) (nk ck:Nat) (w:World):Calls Tryz.prog 103 #[.agg #[.int .u8 23,.string (ofL x),.int .i64 n,.slice Ak nk ck,.int .i64 a]] w (ShapePost (Mist.shapeOf 23 n) w):=by
 have HSH:=hid (show Mist.shapeOf 23 n=some ⟨false,0,0,[⟨2,2,.expr⟩]⟩ from rfl)
 go_enter Tryz.func103,Tryz.ntmps103
 go_wp2_with fail
 refine (just_expr _ _).mono ?_
 rintro e w1 ⟨rfl,hb1⟩
 go_wp2_with fail
 refine (just_expr _ _).mono ?_
 rintro e w2 ⟨rfl,hb2⟩
 go_wp2_with fail
 refine (just_expr _ _).mono ?_
 rintro e w3 ⟨rfl,hb3⟩
 obtain⟨hB0,hB1,hL3⟩:=pre_facts hb1 hb2 hb3
 have HL3:=hid hL3
 have HB1:=hid hB1
 have HB0:=hid hB0
 have hz:=hB1.lt
 clear hB0 hB1 hL3 hb1 hb2 hb3
 go_upto_region 5 with (fail)
 have HB5:=hid (show Blk (((((w3.alloc (.cells #[.int .i64 1,.int .i64 1,.func (.func 69) #[] #[]] 152)).alloc (.cells #[.int .i64 2,.int .i64 2,.func (.func 69) #[] #[]] 152)).alloc (.cells #[.int .i64 3,.int .i64 3,.func (.func 69) #[] #[]] 152)).alloc (.cells #[.int .i64 0,.int .i64 801,.func (.func 69) #[] #[]] 152)).alloc (.cells #[.int .i64 1,.int .i64 801,.func (.func 69) #[] #[]] 152)) (w.heap.size+1) 119 #[.bool false,.int .i64 0,.int .i64 0,.slice none 0 0] from by repeat (first | (with_reducible exact HB1.out) | (with_reducible refine Blk.alloc ?_ _)))
 have HP5:=hid (show Blk (((((w3.alloc (.cells #[.int .i64 1,.int .i64 1,.func (.func 69) #[] #[]] 152)).alloc (.cells #[.int .i64 2,.int .i64 2,.func (.func 69) #[] #[]] 152)).alloc (.cells #[.int .i64 3,.int .i64 3,.func (.func 69) #[] #[]] 152)).alloc (.cells #[.int .i64 0,.int .i64 801,.func (.func 69) #[] #[]] 152)).alloc (.cells #[.int .i64 1,.int .i64 801,.func (.func 69) #[] #[]] 152)) w.heap.size 50 #[.int .u8 23,.string (ofL x),.int .i64 n,.slice Ak nk ck,.int .i64 a] from by repeat (first | (with_reducible exact HB0.out) | (with_reducible refine Blk.alloc ?_ _)))
 have HL5:=hid (show Below w.heap.size w (((((w3.alloc (.cells #[.int .i64 1,.int .i64 1,.func (.func 69) #[] #[]] 152)).alloc (.cells #[.int .i64 2,.int .i64 2,.func (.func 69) #[] #[]] 152)).alloc (.cells #[.int .i64 3,.int .i64 3,.func (.func 69) #[] #[]] 152)).alloc (.cells #[.int .i64 0,.int .i64 801,.func (.func 69) #[] #[]] 152)).alloc (.cells #[.int .i64 1,.int .i64 801,.func (.func 69) #[] #[]] 152)) from by repeat (first | (with_reducible exact HL3.out) | (with_reducible refine bset ?_ ?_) | (with_reducible refine balloc ?_ ?_) | omega | (simp;omega)))
 have HO5:=hid (show Blk (((((w3.alloc (.cells #[.int .i64 1,.int .i64 1,.func (.func 69) #[] #[]] 152)).alloc (.cells #[.int .i64 2,.int .i64 2,.func (.func 69) #[] #[]] 152)).alloc (.cells #[.int .i64 3,.int .i64 3,.func (.func 69) #[] #[]] 152)).alloc (.cells #[.int .i64 0,.int .i64 801,.func (.func 69) #[] #[]] 152)).alloc (.cells #[.int .i64 1,.int .i64 801,.func (.func 69) #[] #[]] 152)) (w3.heap.size+1) 152 #[.int .i64 2,.int .i64 2,.func (.func 69) #[] #[]] from by repeat (first | (with_reducible exact blk_top (by first | rfl | simp)) | (with_reducible refine Blk.alloc ?_ _)))
 have hs5:(((((w3.alloc (.cells #[.int .i64 1,.int .i64 1,.func (.func 69) #[] #[]] 152)).alloc (.cells #[.int .i64 2,.int .i64 2,.func (.func 69) #[] #[]] 152)).alloc (.cells #[.int .i64 3,.int .i64 3,.func (.func 69) #[] #[]] 152)).alloc (.cells #[.int .i64 0,.int .i64 801,.func (.func 69) #[] #[]] 152)).alloc (.cells #[.int .i64 1,.int .i64 801,.func (.func 69) #[] #[]] 152)).heap.size=w3.heap.size+1+1+1+1+1:=by simp
 generalize (((((w3.alloc (.cells #[.int .i64 1,.int .i64 1,.func (.func 69) #[] #[]] 152)).alloc (.cells #[.int .i64 2,.int .i64 2,.func (.func 69) #[] #[]] 152)).alloc (.cells #[.int .i64 3,.int .i64 3,.func (.func 69) #[] #[]] 152)).alloc (.cells #[.int .i64 0,.int .i64 801,.func (.func 69) #[] #[]] 152)).alloc (.cells #[.int .i64 1,.int .i64 801,.func (.func 69) #[] #[]] 152))=w5 at HB5 HP5 HL5 hs5 HO5 ⊢
 have o0:=HO5.out.cell 0
 have o1:=HO5.out.cell 1
 have o2:=HO5.out.cell 2
 have ho5:=HO5.out.lt
 have p0:=HP5.out.cell 0
 have p2:=HP5.out.cell 2
 have hs7:w.heap.size+1 < w5.heap.size:=by omega
 have hs8:w.heap.size < w5.heap.size:=by omega
 have HS5:=hid hs5;clear hs5 hz
 have q0:=HB5.out.cell 0
 have q1:=HB5.out.cell 1
 have q2:=HB5.out.cell 2
 have q3:=HB5.out.cell 3
 have r0:=HB5.out.frozen 0
 have r1:=HB5.out.frozen 1
 have r2:=HB5.out.frozen 2
 have r3:=HB5.out.frozen 3
 go_wp2_with fail
 have hp5:=HP5.out.lt
 have hne:w.heap.size ≠ w3.heap.size:=fun e=>HB5.out.ne_ HO5.out (by decide) (by rw [e])
 go_region_held3 (fun w'=>w'.cell? ⟨w.heap.size,0,none⟩=some (.int .u8 23)∧w'.cell? ⟨w3.heap.size+1,0,none⟩=some (.int .i64 2)∧w'.cell? ⟨w3.heap.size+1,1,none⟩=some (.int .i64 2)∧w'.cell? ⟨w3.heap.size+1,2,none⟩=some (.func (.func 69) #[] #[]))
  (first | go_keep | (go_split_ands;refine⟨?_,?_,?_,?_⟩ <;> assumption) | (go_split_ands;refine⟨?_,?_,?_,?_⟩ <;> go_keep))
  ((go_at_call 158;refine (parts_1 _ _ _ _).mono ?_;rintro e w6 ⟨rfl,hb6⟩;have HBE:=hid hb6;have HP6:=hid (show Blk w6 w.heap.size 50 #[.int .u8 23,.string (ofL x),.int .i64 n,.slice Ak nk ck,.int .i64 a] from Blk.below (by repeat (first | (with_reducible exact HP5.out) | (with_reducible refine Blk.alloc ?_ _) | (with_reducible refine Blk.drew ?_))) hb6 (by first | omega | (simp;omega)));have HO6:=hid (show Blk w6 (w3.heap.size+1) 152 #[.int .i64 2,.int .i64 2,.func (.func 69) #[] #[]] from Blk.below (by repeat (first | (with_reducible exact HO5.out) | (with_reducible refine Blk.alloc ?_ _) | (with_reducible refine Blk.drew ?_))) hb6 (by first | omega | (simp;omega)));have HB6:=hid (show Blk w6 (w.heap.size+1) 119 #[.bool false,.int .i64 0,.int .i64 0,.slice none 0 0] from Blk.below (by repeat (first | (with_reducible exact HB5.out) | (with_reducible refine Blk.alloc ?_ _) | (with_reducible refine Blk.drew ?_))) hb6 (by first | omega | (simp;omega)));have HL6:=hid (show Below w.heap.size w w6 from Below.trans (by repeat (first | (with_reducible exact HL5.out) | (with_reducible refine balloc ?_ ?_) | (with_reducible refine Below.drew ?_) | omega | (simp;omega))) (hb6.mono (by first | omega | (simp;omega))));clear hb6 p0 p2 q0 q1 q2 q3 r0 r1 r2 r3 o0 o1 o2;have p0:=HP6.out.cell 0;have o0:=HO6.out.cell 0;have o1:=HO6.out.cell 1;have o2:=HO6.out.cell 2;have q0:=HB6.out.cell 0;have q1:=HB6.out.cell 1;have q2:=HB6.out.cell 2;have q3:=HB6.out.cell 3;have r0:=HB6.out.frozen 0;have r1:=HB6.out.frozen 1;have r2:=HB6.out.frozen 2;have r3:=HB6.out.frozen 3;have hs9:=HB6.out.lt))
 all_goals
  go_wp2_with fail
  refine bodyPost_ret (v:=.tuple #[.agg #[.bool false,.int .i64 0,.int .i64 0,.slice (some ⟨w5.heap.size,0,none⟩) 1 1],.bool true]) (by simp [results,Tryz.f103,go_sem,q0,q1,q2,q3]) rfl ?_
  refine⟨_,_,_,_,_,_,_,rfl,?_,?_⟩
  ·repeat (first | (with_reducible exact HL6.out) | (with_reducible refine bset ?_ ?_) | (with_reducible refine balloc ?_ ?_) | (with_reducible refine Below.drew ?_) | omega | (simp;omega))
  ·rw [HSH.out]
   refine⟨rfl,rfl,rfl,rfl,rfl,Nat.le_refl _,?_⟩
   refine PartsIn.one (T:=152) ?_
   have hq:=(Blk.drew (Blk.new w5 152 #[.int .i64 2,.int .i64 2,.func (.func 69) #[] #[]])).below HBE.out (by simp)
   repeat (first | (with_reducible refine Blk.far ?_ ?_ _) | (with_reducible refine Blk.drew ?_) | exact hq | (simp;omega))
theorem shape_none (k:Nat) (x:Bs) (n a:Int) (Ak:Option Addr) (nk ck:Nat) (w:World) (h:(27≤k∧k≤29)∨(35≤k∧k≤39)∨47≤k):Calls Tryz.prog 103 #[.agg #[.int .u8 k,.string (ofL x),.int .i64 n,.slice Ak nk ck,.int .i64 a]] w (ShapePost (Mist.shapeOf k n) w):=by
 have e1:((k:Int) == 1)=false:=by rw [beq_eq_false_iff_ne];omega
 have e2:((k:Int) == 2)=false:=by rw [beq_eq_false_iff_ne];omega
 have e3:((k:Int) == 3)=false:=by rw [beq_eq_false_iff_ne];omega
 have e32:((k:Int) == 32)=false:=by rw [beq_eq_false_iff_ne];omega
 have e45:((k:Int) == 45)=false:=by rw [beq_eq_false_iff_ne];omega
 have e4:((k:Int) == 4)=false:=by rw [beq_eq_false_iff_ne];omega
 have e5:((k:Int) == 5)=false:=by rw [beq_eq_false_iff_ne];omega
 have e19:((k:Int) == 19)=false:=by rw [beq_eq_false_iff_ne];omega
 have e20:((k:Int) == 20)=false:=by rw [beq_eq_false_iff_ne];omega
 have e21:((k:Int) == 21)=false:=by rw [beq_eq_false_iff_ne];omega
 have e22:((k:Int) == 22)=false:=by rw [beq_eq_false_iff_ne];omega
 have e25:((k:Int) == 25)=false:=by rw [beq_eq_false_iff_ne];omega
 have e43:((k:Int) == 43)=false:=by rw [beq_eq_false_iff_ne];omega
 have e44:((k:Int) == 44)=false:=by rw [beq_eq_false_iff_ne];omega
 have e24:((k:Int) == 24)=false:=by rw [beq_eq_false_iff_ne];omega
 have e26:((k:Int) == 26)=false:=by rw [beq_eq_false_iff_ne];omega
 have e30:((k:Int) == 30)=false:=by rw [beq_eq_false_iff_ne];omega
 have e31:((k:Int) == 31)=false:=by rw [beq_eq_false_iff_ne];omega
 have e33:((k:Int) == 33)=false:=by rw [beq_eq_false_iff_ne];omega
 have e34:((k:Int) == 34)=false:=by rw [beq_eq_false_iff_ne];omega
 have e40:((k:Int) == 40)=false:=by rw [beq_eq_false_iff_ne];omega
 have e41:((k:Int) == 41)=false:=by rw [beq_eq_false_iff_ne];omega
 have e42:((k:Int) == 42)=false:=by rw [beq_eq_false_iff_ne];omega
 have e46:((k:Int) == 46)=false:=by rw [beq_eq_false_iff_ne];omega
 have a1:decide ((6:Int)≤(k:Int))=true:=decide_eq_true (by omega)
 have a2:decide ((k:Int)≤(18:Int))=false:=decide_eq_false (by omega)
 have HSH:=hid (show Mist.shapeOf k n=none from (by unfold Mist.shapeOf;repeat (first | rw [if_neg (by omega)] | rw [if_pos (by omega)])))
 have e23b:((k:Int) == 23)=false:=by rw [beq_eq_false_iff_ne];omega
 go_enter Tryz.func103,Tryz.ntmps103
 go_wp2_with fail
 refine (just_expr _ _).mono ?_
 rintro e w1 ⟨rfl,hb1⟩
 go_wp2_with fail
 refine (just_expr _ _).mono ?_
 rintro e w2 ⟨rfl,hb2⟩
 go_wp2_with fail
 refine (just_expr _ _).mono ?_
 rintro e w3 ⟨rfl,hb3⟩
 obtain⟨hB0,hB1,hL3⟩:=pre_facts hb1 hb2 hb3
 have HL3:=hid hL3
 have HB1:=hid hB1
 have HB0:=hid hB0
 have hz:=hB1.lt
 clear hB0 hB1 hL3 hb1 hb2 hb3
 go_upto_region 5 with (fail)
 have HB5:=hid (show Blk (((((w3.alloc (.cells #[.int .i64 1,.int .i64 1,.func (.func 69) #[] #[]] 152)).alloc (.cells #[.int .i64 2,.int .i64 2,.func (.func 69) #[] #[]] 152)).alloc (.cells #[.int .i64 3,.int .i64 3,.func (.func 69) #[] #[]] 152)).alloc (.cells #[.int .i64 0,.int .i64 801,.func (.func 69) #[] #[]] 152)).alloc (.cells #[.int .i64 1,.int .i64 801,.func (.func 69) #[] #[]] 152)) (w.heap.size+1) 119 #[.bool false,.int .i64 0,.int .i64 0,.slice none 0 0] from by repeat (first | (with_reducible exact HB1.out) | (with_reducible refine Blk.alloc ?_ _)))
 have HP5:=hid (show Blk (((((w3.alloc (.cells #[.int .i64 1,.int .i64 1,.func (.func 69) #[] #[]] 152)).alloc (.cells #[.int .i64 2,.int .i64 2,.func (.func 69) #[] #[]] 152)).alloc (.cells #[.int .i64 3,.int .i64 3,.func (.func 69) #[] #[]] 152)).alloc (.cells #[.int .i64 0,.int .i64 801,.func (.func 69) #[] #[]] 152)).alloc (.cells #[.int .i64 1,.int .i64 801,.func (.func 69) #[] #[]] 152)) w.heap.size 50 #[.int .u8 k,.string (ofL x),.int .i64 n,.slice Ak nk ck,.int .i64 a] from by repeat (first | (with_reducible exact HB0.out) | (with_reducible refine Blk.alloc ?_ _)))
 have HL5:=hid (show Below w.heap.size w (((((w3.alloc (.cells #[.int .i64 1,.int .i64 1,.func (.func 69) #[] #[]] 152)).alloc (.cells #[.int .i64 2,.int .i64 2,.func (.func 69) #[] #[]] 152)).alloc (.cells #[.int .i64 3,.int .i64 3,.func (.func 69) #[] #[]] 152)).alloc (.cells #[.int .i64 0,.int .i64 801,.func (.func 69) #[] #[]] 152)).alloc (.cells #[.int .i64 1,.int .i64 801,.func (.func 69) #[] #[]] 152)) from by repeat (first | (with_reducible exact HL3.out) | (with_reducible refine bset ?_ ?_) | (with_reducible refine balloc ?_ ?_) | omega | (simp;omega)))
 have HO5:=hid (show Blk (((((w3.alloc (.cells #[.int .i64 1,.int .i64 1,.func (.func 69) #[] #[]] 152)).alloc (.cells #[.int .i64 2,.int .i64 2,.func (.func 69) #[] #[]] 152)).alloc (.cells #[.int .i64 3,.int .i64 3,.func (.func 69) #[] #[]] 152)).alloc (.cells #[.int .i64 0,.int .i64 801,.func (.func 69) #[] #[]] 152)).alloc (.cells #[.int .i64 1,.int .i64 801,.func (.func 69) #[] #[]] 152)) (w3.heap.size+1) 152 #[.int .i64 2,.int .i64 2,.func (.func 69) #[] #[]] from by repeat (first | (with_reducible exact blk_top (by first | rfl | simp)) | (with_reducible refine Blk.alloc ?_ _)))
 have hs5:(((((w3.alloc (.cells #[.int .i64 1,.int .i64 1,.func (.func 69) #[] #[]] 152)).alloc (.cells #[.int .i64 2,.int .i64 2,.func (.func 69) #[] #[]] 152)).alloc (.cells #[.int .i64 3,.int .i64 3,.func (.func 69) #[] #[]] 152)).alloc (.cells #[.int .i64 0,.int .i64 801,.func (.func 69) #[] #[]] 152)).alloc (.cells #[.int .i64 1,.int .i64 801,.func (.func 69) #[] #[]] 152)).heap.size=w3.heap.size+1+1+1+1+1:=by simp
 generalize (((((w3.alloc (.cells #[.int .i64 1,.int .i64 1,.func (.func 69) #[] #[]] 152)).alloc (.cells #[.int .i64 2,.int .i64 2,.func (.func 69) #[] #[]] 152)).alloc (.cells #[.int .i64 3,.int .i64 3,.func (.func 69) #[] #[]] 152)).alloc (.cells #[.int .i64 0,.int .i64 801,.func (.func 69) #[] #[]] 152)).alloc (.cells #[.int .i64 1,.int .i64 801,.func (.func 69) #[] #[]] 152))=w5 at HB5 HP5 HL5 hs5 HO5 ⊢
 have o0:=HO5.out.cell 0
 have o1:=HO5.out.cell 1
 have o2:=HO5.out.cell 2
 have ho5:=HO5.out.lt
 have p0:=HP5.out.cell 0
 have p2:=HP5.out.cell 2
 have hs7:w.heap.size+1 < w5.heap.size:=by omega
 have hs8:w.heap.size < w5.heap.size:=by omega
 have HS5:=hid hs5;clear hs5 hz
 have q0:=HB5.out.cell 0
 have q1:=HB5.out.cell 1
 have q2:=HB5.out.cell 2
 have q3:=HB5.out.cell 3
 have r0:=HB5.out.frozen 0
 have r1:=HB5.out.frozen 1
 have r2:=HB5.out.frozen 2
 have r3:=HB5.out.frozen 3
 go_wp2_with fail
 have hp5:=HP5.out.lt
 have hne:w.heap.size ≠ w3.heap.size:=fun e=>HB5.out.ne_ HO5.out (by decide) (by rw [e])
 go_region_held3 (fun w'=>w'.cell? ⟨w.heap.size,0,none⟩=some (.int .u8 k)∧w'.cell? ⟨w3.heap.size+1,0,none⟩=some (.int .i64 2)∧w'.cell? ⟨w3.heap.size+1,1,none⟩=some (.int .i64 2)∧w'.cell? ⟨w3.heap.size+1,2,none⟩=some (.func (.func 69) #[] #[]))
  (first | go_keep | (go_split_ands;refine⟨?_,?_,?_,?_⟩ <;> assumption) | (go_split_ands;refine⟨?_,?_,?_,?_⟩ <;> go_keep))
  ((go_at_call 158;refine (parts_1 _ _ _ _).mono ?_;rintro e w6 ⟨rfl,hb6⟩;have HBE:=hid hb6;have HP6:=hid (show Blk w6 w.heap.size 50 #[.int .u8 k,.string (ofL x),.int .i64 n,.slice Ak nk ck,.int .i64 a] from Blk.below (by repeat (first | (with_reducible exact HP5.out) | (with_reducible refine Blk.alloc ?_ _) | (with_reducible refine Blk.drew ?_))) hb6 (by first | omega | (simp;omega)));have HO6:=hid (show Blk w6 (w3.heap.size+1) 152 #[.int .i64 2,.int .i64 2,.func (.func 69) #[] #[]] from Blk.below (by repeat (first | (with_reducible exact HO5.out) | (with_reducible refine Blk.alloc ?_ _) | (with_reducible refine Blk.drew ?_))) hb6 (by first | omega | (simp;omega)));have HB6:=hid (show Blk w6 (w.heap.size+1) 119 #[.bool false,.int .i64 0,.int .i64 0,.slice none 0 0] from Blk.below (by repeat (first | (with_reducible exact HB5.out) | (with_reducible refine Blk.alloc ?_ _) | (with_reducible refine Blk.drew ?_))) hb6 (by first | omega | (simp;omega)));have HL6:=hid (show Below w.heap.size w w6 from Below.trans (by repeat (first | (with_reducible exact HL5.out) | (with_reducible refine balloc ?_ ?_) | (with_reducible refine Below.drew ?_) | omega | (simp;omega))) (hb6.mono (by first | omega | (simp;omega))));clear hb6 p0 p2 q0 q1 q2 q3 r0 r1 r2 r3 o0 o1 o2;have p0:=HP6.out.cell 0;have o0:=HO6.out.cell 0;have o1:=HO6.out.cell 1;have o2:=HO6.out.cell 2;have q0:=HB6.out.cell 0;have q1:=HB6.out.cell 1;have q2:=HB6.out.cell 2;have q3:=HB6.out.cell 3;have r0:=HB6.out.frozen 0;have r1:=HB6.out.frozen 1;have r2:=HB6.out.frozen 2;have r3:=HB6.out.frozen 3;have hs9:=HB6.out.lt))
 all_goals
  go_wp2_with fail
  refine bodyPost_ret (v:=.tuple #[.agg #[.bool false,.int .i64 0,.int .i64 0,.slice (some ⟨w5.heap.size,0,none⟩) 1 1],.bool false]) (by simp [results,Tryz.f103,go_sem,q0,q1,q2,q3]) rfl ?_
  refine⟨_,_,_,_,_,_,_,rfl,?_,?_⟩
  ·repeat (first | (with_reducible exact HL6.out) | (with_reducible refine bset ?_ ?_) | (with_reducible refine balloc ?_ ?_) | (with_reducible refine Below.drew ?_) | omega | (simp;omega))
  ·rw [HSH.out]
end Go.Proofs.YthepmkjggfijoaaGreatDoor
namespace Go.Proofs.YthepmkjggfijoaaGreatDoor
open Go.RowKit Mist
attribute [local go_sem] ofL_extract ofL_size ofL_get ofL_bytes ofL_append
theorem take_no {P:Program} {md:Region.Mode} {l:List Oper} {Q:Exit→Act→World→Prop} {S:World→Prop} {i:Nat} {oi:Oper} {fuel:Nat} {listed:Array Bool} {a:Act} {w:World} (hi:Nth l i oi)
  (hs:Region.noSelect l.toArray=true) (hf:Region.free md l.toArray listed i=true) (hr:(Region.ready md l.toArray listed).contains i=true)
  (hQ:∀ c a w,Q (.panic c) (a.put oi.dst undef) w→Q (.panic c) a w) (hy:Region.wanted oi (yielded l.toArray a.tmps)=false) (hS:S w)
  (h:wpAnyH P md l.toArray Q S fuel (listed.setIfInBounds i true) (a.put oi.dst undef) w):wpAnyH P md l.toArray Q S (fuel+1) listed a w :=
 wpAnyH_take hi.get hs hf hr hQ (Or.inr ⟨hy,rfl⟩) hS h
theorem shape_op (k:Nat) (x:Bs) (n a:Int) (Ak:Option Addr) (nk ck:Nat) (w:World) (h:6≤k∧k≤18):Calls Tryz.prog 103 #[.agg #[.int .u8 k,.string (ofL x),.int .i64 n,.slice Ak nk ck,.int .i64 a]] w (ShapePost (Mist.shapeOf k n) w):=by
 have e1:((k:Int) == 1)=false:=by rw [beq_eq_false_iff_ne];omega
 have e2:((k:Int) == 2)=false:=by rw [beq_eq_false_iff_ne];omega
 have e3:((k:Int) == 3)=false:=by rw [beq_eq_false_iff_ne];omega
 have e32:((k:Int) == 32)=false:=by rw [beq_eq_false_iff_ne];omega
 have e45:((k:Int) == 45)=false:=by rw [beq_eq_false_iff_ne];omega
 have e4:((k:Int) == 4)=false:=by rw [beq_eq_false_iff_ne];omega
 have e5:((k:Int) == 5)=false:=by rw [beq_eq_false_iff_ne];omega
 have e19:((k:Int) == 19)=false:=by rw [beq_eq_false_iff_ne];omega
 have e20:((k:Int) == 20)=false:=by rw [beq_eq_false_iff_ne];omega
 have e21:((k:Int) == 21)=false:=by rw [beq_eq_false_iff_ne];omega
 have e22:((k:Int) == 22)=false:=by rw [beq_eq_false_iff_ne];omega
 have e25:((k:Int) == 25)=false:=by rw [beq_eq_false_iff_ne];omega
 have e43:((k:Int) == 43)=false:=by rw [beq_eq_false_iff_ne];omega
 have e44:((k:Int) == 44)=false:=by rw [beq_eq_false_iff_ne];omega
 have e24:((k:Int) == 24)=false:=by rw [beq_eq_false_iff_ne];omega
 have e26:((k:Int) == 26)=false:=by rw [beq_eq_false_iff_ne];omega
 have e30:((k:Int) == 30)=false:=by rw [beq_eq_false_iff_ne];omega
 have e31:((k:Int) == 31)=false:=by rw [beq_eq_false_iff_ne];omega
 have e33:((k:Int) == 33)=false:=by rw [beq_eq_false_iff_ne];omega
 have e34:((k:Int) == 34)=false:=by rw [beq_eq_false_iff_ne];omega
 have e40:((k:Int) == 40)=false:=by rw [beq_eq_false_iff_ne];omega
 have e41:((k:Int) == 41)=false:=by rw [beq_eq_false_iff_ne];omega
 have e42:((k:Int) == 42)=false:=by rw [beq_eq_false_iff_ne];omega
 have e46:((k:Int) == 46)=false:=by rw [beq_eq_false_iff_ne];omega
 have a1:decide ((6:Int)≤(k:Int))=true:=decide_eq_true (by omega)
 have a2:decide ((k:Int)≤(18:Int))=true:=decide_eq_true (by omega)
 have HSH:=hid (show Mist.shapeOf k n=some ⟨false,0,0,[⟨2,2,.expr⟩]⟩ from (by unfold Mist.shapeOf;repeat (first | rw [if_neg (by omega)] | rw [if_pos (by omega)])))
 go_enter Tryz.func103,Tryz.ntmps103
 go_wp2_with fail
 refine (just_expr _ _).mono ?_
 rintro e w1 ⟨rfl,hb1⟩
 go_wp2_with fail
 refine (just_expr _ _).mono ?_
 rintro e w2 ⟨rfl,hb2⟩
 go_wp2_with fail
 refine (just_expr _ _).mono ?_
 rintro e w3 ⟨rfl,hb3⟩
 obtain⟨hB0,hB1,hL3⟩:=pre_facts hb1 hb2 hb3
 have HL3:=hid hL3
 have HB1:=hid hB1
 have HB0:=hid hB0
 have hz:=hB1.lt
 clear hB0 hB1 hL3 hb1 hb2 hb3
 go_upto_region 5 with (fail)
 have HB5:=hid (show Blk (((((w3.alloc (.cells #[.int .i64 1,.int .i64 1,.func (.func 69) #[] #[]] 152)).alloc (.cells #[.int .i64 2,.int .i64 2,.func (.func 69) #[] #[]] 152)).alloc (.cells #[.int .i64 3,.int .i64 3,.func (.func 69) #[] #[]] 152)).alloc (.cells #[.int .i64 0,.int .i64 801,.func (.func 69) #[] #[]] 152)).alloc (.cells #[.int .i64 1,.int .i64 801,.func (.func 69) #[] #[]] 152)) (w.heap.size+1) 119 #[.bool false,.int .i64 0,.int .i64 0,.slice none 0 0] from by repeat (first | (with_reducible exact HB1.out) | (with_reducible refine Blk.alloc ?_ _)))
 have HP5:=hid (show Blk (((((w3.alloc (.cells #[.int .i64 1,.int .i64 1,.func (.func 69) #[] #[]] 152)).alloc (.cells #[.int .i64 2,.int .i64 2,.func (.func 69) #[] #[]] 152)).alloc (.cells #[.int .i64 3,.int .i64 3,.func (.func 69) #[] #[]] 152)).alloc (.cells #[.int .i64 0,.int .i64 801,.func (.func 69) #[] #[]] 152)).alloc (.cells #[.int .i64 1,.int .i64 801,.func (.func 69) #[] #[]] 152)) w.heap.size 50 #[.int .u8 k,.string (ofL x),.int .i64 n,.slice Ak nk ck,.int .i64 a] from by repeat (first | (with_reducible exact HB0.out) | (with_reducible refine Blk.alloc ?_ _)))
 have HL5:=hid (show Below w.heap.size w (((((w3.alloc (.cells #[.int .i64 1,.int .i64 1,.func (.func 69) #[] #[]] 152)).alloc (.cells #[.int .i64 2,.int .i64 2,.func (.func 69) #[] #[]] 152)).alloc (.cells #[.int .i64 3,.int .i64 3,.func (.func 69) #[] #[]] 152)).alloc (.cells #[.int .i64 0,.int .i64 801,.func (.func 69) #[] #[]] 152)).alloc (.cells #[.int .i64 1,.int .i64 801,.func (.func 69) #[] #[]] 152)) from by repeat (first | (with_reducible exact HL3.out) | (with_reducible refine bset ?_ ?_) | (with_reducible refine balloc ?_ ?_) | omega | (simp;omega)))
 have HO5:=hid (show Blk (((((w3.alloc (.cells #[.int .i64 1,.int .i64 1,.func (.func 69) #[] #[]] 152)).alloc (.cells #[.int .i64 2,.int .i64 2,.func (.func 69) #[] #[]] 152)).alloc (.cells #[.int .i64 3,.int .i64 3,.func (.func 69) #[] #[]] 152)).alloc (.cells #[.int .i64 0,.int .i64 801,.func (.func 69) #[] #[]] 152)).alloc (.cells #[.int .i64 1,.int .i64 801,.func (.func 69) #[] #[]] 152)) (w3.heap.size+1) 152 #[.int .i64 2,.int .i64 2,.func (.func 69) #[] #[]] from by repeat (first | (with_reducible exact blk_top (by first | rfl | simp)) | (with_reducible refine Blk.alloc ?_ _)))
 have hs5:(((((w3.alloc (.cells #[.int .i64 1,.int .i64 1,.func (.func 69) #[] #[]] 152)).alloc (.cells #[.int .i64 2,.int .i64 2,.func (.func 69) #[] #[]] 152)).alloc (.cells #[.int .i64 3,.int .i64 3,.func (.func 69) #[] #[]] 152)).alloc (.cells #[.int .i64 0,.int .i64 801,.func (.func 69) #[] #[]] 152)).alloc (.cells #[.int .i64 1,.int .i64 801,.func (.func 69) #[] #[]] 152)).heap.size=w3.heap.size+1+1+1+1+1:=by simp
 generalize (((((w3.alloc (.cells #[.int .i64 1,.int .i64 1,.func (.func 69) #[] #[]] 152)).alloc (.cells #[.int .i64 2,.int .i64 2,.func (.func 69) #[] #[]] 152)).alloc (.cells #[.int .i64 3,.int .i64 3,.func (.func 69) #[] #[]] 152)).alloc (.cells #[.int .i64 0,.int .i64 801,.func (.func 69) #[] #[]] 152)).alloc (.cells #[.int .i64 1,.int .i64 801,.func (.func 69) #[] #[]] 152))=w5 at HB5 HP5 HL5 hs5 HO5 ⊢
 have o0:=HO5.out.cell 0
 have o1:=HO5.out.cell 1
 have o2:=HO5.out.cell 2
 have ho5:=HO5.out.lt
 have p0:=HP5.out.cell 0
 have p2:=HP5.out.cell 2
 have hs7:w.heap.size+1 < w5.heap.size:=by omega
 have hs8:w.heap.size < w5.heap.size:=by omega
 have HS5:=hid hs5;clear hs5 hz
 have q0:=HB5.out.cell 0
 have q1:=HB5.out.cell 1
 have q2:=HB5.out.cell 2
 have q3:=HB5.out.cell 3
 have r0:=HB5.out.frozen 0
 have r1:=HB5.out.frozen 1
 have r2:=HB5.out.frozen 2
 have r3:=HB5.out.frozen 3
 go_wp2_with fail
 have hp5:=HP5.out.lt
 have hne:w.heap.size ≠ w3.heap.size:=fun e=>HB5.out.ne_ HO5.out (by decide) (by rw [e])
 refine wp_region_noPanic ?_
 refine wp_region_held_drew (S:=fun w'=>w'.cell? ⟨w.heap.size,0,none⟩=some (.int .u8 k)∧w'.cell? ⟨w3.heap.size+1,0,none⟩=some (.int .i64 2)∧w'.cell? ⟨w3.heap.size+1,1,none⟩=some (.int .i64 2)∧w'.cell? ⟨w3.heap.size+1,2,none⟩=some (.func (.func 69) #[] #[])) (by kernel_rfl) ⟨p0,o0,o1,o2⟩ (fun hHeld=>?_)
 refine take_nth (i:=0) .z (by kernel_rfl) (by kernel_rfl) (by kernel_rfl) (fun _ _ _ h=>h) (v:=?_) ⟨by rfl,?_⟩ hHeld ?_
 rotate_left
 ·(intro w0 hSw;(try dsimp only at hSw);go_split_ands;go_simp;try with_reducible rfl)
 simp only [Act.put,List.setIfInBounds_toArray,List.set_cons_zero,List.set_cons_succ]
 refine take_nth (i:=1) (.s .z) (by kernel_rfl) (by kernel_rfl) (by kernel_rfl) (fun _ _ _ h=>h) (v:=?_) ⟨by rfl,?_⟩ hHeld ?_
 rotate_left
 ·(intro w0 hSw;(try dsimp only at hSw);go_split_ands;go_simp;try with_reducible rfl)
 simp only [Act.put,List.setIfInBounds_toArray,List.set_cons_zero,List.set_cons_succ]
 refine take_nth (i:=4) (.s (.s (.s (.s .z)))) (by kernel_rfl) (by kernel_rfl) (by kernel_rfl) (fun _ _ _ h=>h) (v:=?_) ⟨by rfl,?_⟩ hHeld ?_
 rotate_left
 ·(intro w0 hSw;(try dsimp only at hSw);go_split_ands;go_simp;try with_reducible rfl)
 simp only [Act.put,List.setIfInBounds_toArray,List.set_cons_zero,List.set_cons_succ]
 refine take_nth (i:=5) (.s (.s (.s (.s (.s .z))))) (by kernel_rfl) (by kernel_rfl) (by kernel_rfl) (fun _ _ _ h=>h) (v:=?_) ⟨by rfl,?_⟩ hHeld ?_
 rotate_left
 ·(intro w0 hSw;(try dsimp only at hSw);go_split_ands;go_simp;try with_reducible rfl)
 simp only [Act.put,List.setIfInBounds_toArray,List.set_cons_zero,List.set_cons_succ]
 refine take_nth (i:=6) (.s (.s (.s (.s (.s (.s .z)))))) (by kernel_rfl) (by kernel_rfl) (by kernel_rfl) (fun _ _ _ h=>h) (v:=?_) ⟨by rfl,?_⟩ hHeld ?_
 rotate_left
 ·(intro w0 hSw;(try dsimp only at hSw);go_split_ands;go_simp;try with_reducible rfl)
 simp only [Act.put,List.setIfInBounds_toArray,List.set_cons_zero,List.set_cons_succ]
 refine wpAnyH_ready (rs:=[2]) (by kernel_rfl) (by simp) ?_
 refine ready_nth (.s (.s .z)) (fun K hK=>?_)
 go_simp
 refine hK.out _ _ ?_ (fun hHeld2=>?_)
 ·(refine⟨?_,?_,?_,?_⟩ <;> go_keep)
 (try simp only [Act.put,List.setIfInBounds_toArray,List.set_cons_zero,List.set_cons_succ])
 refine wpAnyH_ready (rs:=[3]) (by kernel_rfl) (by simp) ?_
 refine ready_nth (.s (.s (.s .z))) (fun K hK=>?_)
 go_simp
 refine (parts_1 _ _ _ _).mono ?_
 rintro e w6 ⟨rfl,hb6⟩
 have HBE:=hid hb6
 have HP6:=hid (show Blk w6 w.heap.size 50 #[.int .u8 k,.string (ofL x),.int .i64 n,.slice Ak nk ck,.int .i64 a] from Blk.below (by repeat (first | (with_reducible exact HP5.out) | (with_reducible refine Blk.alloc ?_ _) | (with_reducible refine Blk.drew ?_))) hb6 (by first | omega | (simp;omega)))
 have HO6:=hid (show Blk w6 (w3.heap.size+1) 152 #[.int .i64 2,.int .i64 2,.func (.func 69) #[] #[]] from Blk.below (by repeat (first | (with_reducible exact HO5.out) | (with_reducible refine Blk.alloc ?_ _) | (with_reducible refine Blk.drew ?_))) hb6 (by first | omega | (simp;omega)))
 have HB6:=hid (show Blk w6 (w.heap.size+1) 119 #[.bool false,.int .i64 0,.int .i64 0,.slice none 0 0] from Blk.below (by repeat (first | (with_reducible exact HB5.out) | (with_reducible refine Blk.alloc ?_ _) | (with_reducible refine Blk.drew ?_))) hb6 (by first | omega | (simp;omega)))
 have HL6:=hid (show Below w.heap.size w w6 from Below.trans (by repeat (first | (with_reducible exact HL5.out) | (with_reducible refine balloc ?_ ?_) | (with_reducible refine Below.drew ?_) | omega | (simp;omega))) (hb6.mono (by first | omega | (simp;omega))))
 clear hb6 p0 p2 q0 q1 q2 q3 r0 r1 r2 r3 o0 o1 o2
 have p0:=HP6.out.cell 0
 have o0:=HO6.out.cell 0
 have o1:=HO6.out.cell 1
 have o2:=HO6.out.cell 2
 have q0:=HB6.out.cell 0
 have q1:=HB6.out.cell 1
 have q2:=HB6.out.cell 2
 have q3:=HB6.out.cell 3
 have r0:=HB6.out.frozen 0
 have r1:=HB6.out.frozen 1
 have r2:=HB6.out.frozen 2
 have r3:=HB6.out.frozen 3
 have hs9:=HB6.out.lt
 clear hHeld hHeld2
 refine hK.out _ _ ⟨p0,o0,o1,o2⟩ (fun hHeld3=>?_)
 (try simp only [Act.put,List.setIfInBounds_toArray,List.set_cons_zero,List.set_cons_succ])
 refine take_nth (i:=7) (.s (.s (.s (.s (.s (.s (.s .z))))))) (by kernel_rfl) (by kernel_rfl) (by kernel_rfl) (fun _ _ _ h=>h) (v:=?_) ⟨by rfl,?_⟩ hHeld3 ?_
 rotate_left
 ·(intro w0 hSw;(try dsimp only at hSw);go_split_ands;go_simp;try with_reducible rfl)
 simp only [Act.put,List.setIfInBounds_toArray,List.set_cons_zero,List.set_cons_succ]
 refine take_nth (i:=8) (.s (.s (.s (.s (.s (.s (.s (.s .z)))))))) (by kernel_rfl) (by kernel_rfl) (by kernel_rfl) (fun _ _ _ h=>h) (v:=?_) ⟨by rfl,?_⟩ hHeld3 ?_
 rotate_left
 ·(intro w0 hSw;(try dsimp only at hSw);go_split_ands;go_simp;try with_reducible rfl)
 simp only [Act.put,List.setIfInBounds_toArray,List.set_cons_zero,List.set_cons_succ]
 refine take_nth (i:=9) (.s (.s (.s (.s (.s (.s (.s (.s (.s .z))))))))) (by kernel_rfl) (by kernel_rfl) (by kernel_rfl) (fun _ _ _ h=>h) (v:=?_) ⟨by rfl,?_⟩ hHeld3 ?_
 rotate_left
 ·(intro w0 hSw;(try dsimp only at hSw);go_split_ands;go_simp;try with_reducible rfl)
 simp only [Act.put,List.setIfInBounds_toArray,List.set_cons_zero,List.set_cons_succ]
 refine take_nth (i:=10) (.s (.s (.s (.s (.s (.s (.s (.s (.s (.s .z)))))))))) (by kernel_rfl) (by kernel_rfl) (by kernel_rfl) (fun _ _ _ h=>h) (v:=?_) ⟨by rfl,?_⟩ hHeld3 ?_
 rotate_left
 ·(intro w0 hSw;(try dsimp only at hSw);go_split_ands;go_simp;try with_reducible rfl)
 simp only [Act.put,List.setIfInBounds_toArray,List.set_cons_zero,List.set_cons_succ]
 refine take_nth (i:=11) (.s (.s (.s (.s (.s (.s (.s (.s (.s (.s (.s .z))))))))))) (by kernel_rfl) (by kernel_rfl) (by kernel_rfl) (fun _ _ _ h=>h) (v:=?_) ⟨by rfl,?_⟩ hHeld3 ?_
 rotate_left
 ·(intro w0 hSw;(try dsimp only at hSw);go_split_ands;go_simp;try with_reducible rfl)
 simp only [Act.put,List.setIfInBounds_toArray,List.set_cons_zero,List.set_cons_succ]
 refine take_nth (i:=12) (.s (.s (.s (.s (.s (.s (.s (.s (.s (.s (.s (.s .z)))))))))))) (by kernel_rfl) (by kernel_rfl) (by kernel_rfl) (fun _ _ _ h=>h) (v:=?_) ⟨by rfl,?_⟩ hHeld3 ?_
 rotate_left
 ·(intro w0 hSw;(try dsimp only at hSw);go_split_ands;go_simp;try with_reducible rfl)
 simp only [Act.put,List.setIfInBounds_toArray,List.set_cons_zero,List.set_cons_succ]
 refine take_no (i:=13) (.s (.s (.s (.s (.s (.s (.s (.s (.s (.s (.s (.s (.s .z))))))))))))) (by kernel_rfl) (by kernel_rfl) (by kernel_rfl) (fun _ _ _ h=>h) (by rfl) hHeld3 ?_
 simp only [Act.put,List.setIfInBounds_toArray,List.set_cons_zero,List.set_cons_succ]
 refine take_no (i:=14) (.s (.s (.s (.s (.s (.s (.s (.s (.s (.s (.s (.s (.s (.s .z)))))))))))))) (by kernel_rfl) (by kernel_rfl) (by kernel_rfl) (fun _ _ _ h=>h) (by rfl) hHeld3 ?_
 simp only [Act.put,List.setIfInBounds_toArray,List.set_cons_zero,List.set_cons_succ]
 refine take_no (i:=15) (.s (.s (.s (.s (.s (.s (.s (.s (.s (.s (.s (.s (.s (.s (.s .z))))))))))))))) (by kernel_rfl) (by kernel_rfl) (by kernel_rfl) (fun _ _ _ h=>h) (by rfl) hHeld3 ?_
 simp only [Act.put,List.setIfInBounds_toArray,List.set_cons_zero,List.set_cons_succ]
 refine take_nth (i:=16) (.s (.s (.s (.s (.s (.s (.s (.s (.s (.s (.s (.s (.s (.s (.s (.s .z)))))))))))))))) (by kernel_rfl) (by kernel_rfl) (by kernel_rfl) (fun _ _ _ h=>h) (v:=?_) ⟨by rfl,?_⟩ hHeld3 ?_
 rotate_left
 ·(intro w0 hSw;(try dsimp only at hSw);go_split_ands;go_simp;try with_reducible rfl)
 simp only [Act.put,List.setIfInBounds_toArray,List.set_cons_zero,List.set_cons_succ]
 refine wpAnyH_ready (rs:=[17]) (by kernel_rfl) (by simp) ?_
 refine ready_nth (.s (.s (.s (.s (.s (.s (.s (.s (.s (.s (.s (.s (.s (.s (.s (.s (.s .z))))))))))))))))) (fun K hK=>?_)
 go_simp
 refine hK.out _ _ ?_ (fun hHeld4=>?_)
 ·(refine⟨?_,?_,?_,?_⟩ <;> go_keep)
 (try simp only [Act.put,List.setIfInBounds_toArray,List.set_cons_zero,List.set_cons_succ])
 refine take_nth (i:=18) (.s (.s (.s (.s (.s (.s (.s (.s (.s (.s (.s (.s (.s (.s (.s (.s (.s (.s .z)))))))))))))))))) (by kernel_rfl) (by kernel_rfl) (by kernel_rfl) (fun _ _ _ h=>h) (v:=?_) ⟨by rfl,?_⟩ hHeld4 ?_
 rotate_left
 ·(intro w0 hSw;(try dsimp only at hSw);go_split_ands;go_simp;try with_reducible rfl)
 simp only [Act.put,List.setIfInBounds_toArray,List.set_cons_zero,List.set_cons_succ]
 refine wpAnyH_done (by kernel_rfl) (NoPanic.normal ?_) _
 go_wp2_with fail
 refine bodyPost_ret (v:=.tuple #[.agg #[.bool false,.int .i64 0,.int .i64 0,.slice (some ⟨w5.heap.size,0,none⟩) 1 1],.bool true]) (by simp [results,Tryz.f103,go_sem,q0,q1,q2,q3]) rfl ?_
 refine⟨_,_,_,_,_,_,_,rfl,?_,?_⟩
 ·repeat (first | (with_reducible exact HL6.out) | (with_reducible refine bset ?_ ?_) | (with_reducible refine balloc ?_ ?_) | (with_reducible refine Below.drew ?_) | omega | (simp;omega))
 ·rw [HSH.out]
  refine⟨rfl,rfl,rfl,rfl,rfl,Nat.le_refl _,?_⟩
  refine PartsIn.one (T:=152) ?_
  have hq:=(Blk.drew (Blk.new w5 152 #[.int .i64 2,.int .i64 2,.func (.func 69) #[] #[]])).below HBE.out (by simp)
  repeat (first | (with_reducible refine Blk.far ?_ ?_ _) | (with_reducible refine Blk.drew ?_) | exact hq | (simp;omega))
end Go.Proofs.YthepmkjggfijoaaGreatDoor
