/-
  PARTS of the proof: N6B.
-/
import Derived.Deep.Cut
import Derived.Test.YthepmkjggfijoaaGreatDoorB22
set_option linter.all false
set_option maxRecDepth 100000
set_option maxHeartbeats 4000000
open Go.Lib (hid)
namespace Go.Proofs.YthepmkjggfijoaaGreatDoor
open Go.RowKit Mist
attribute [local go_sem] ofL_extract ofL_size ofL_get ofL_bytes ofL_append
theorem shape_k4 (x:Bs) (n a:Int) (Ak:Option Addr) (nk ck:Nat) (w:World):Calls Tryz.prog 103 #[.agg #[.int .u8 4,.string (ofL x),.int .i64 n,.slice Ak nk ck,.int .i64 a]] w (ShapePost (Mist.shapeOf 4 n) w):=by
 go_enter Tryz.func103,Tryz.ntmps103
 go_wp2_with fail
 refine (just_expr _ _).mono ?_
 rintro e w1 ⟨rfl,hb1⟩
 go_wp2_with fail
 refine (just_expr _ _).mono ?_
 rintro e w2 ⟨rfl,hb2⟩
 go_wp2_with fail
 refine (just_expr _ _).mono ?_
 rintro e w3 ⟨rfl,hb3⟩
 obtain⟨hB0,hB1,hL3⟩:=pre_facts hb1 hb2 hb3
 have HL3:=hid hL3
 have HB1:=hid hB1
 have HB0:=hid hB0
 have hz:=hB1.lt
 clear hB0 hB1 hL3 hb1 hb2 hb3
 go_upto_region 5 with (fail)
 have HB5:=hid (show Blk (((((w3.alloc (.cells #[.int .i64 1,.int .i64 1,.func (.func 69) #[] #[]] 152)).alloc (.cells #[.int .i64 2,.int .i64 2,.func (.func 69) #[] #[]] 152)).alloc (.cells #[.int .i64 3,.int .i64 3,.func (.func 69) #[] #[]] 152)).alloc (.cells #[.int .i64 0,.int .i64 801,.func (.func 69) #[] #[]] 152)).alloc (.cells #[.int .i64 1,.int .i64 801,.func (.func 69) #[] #[]] 152)) (w.heap.size+1) 119 #[.bool false,.int .i64 0,.int .i64 0,.slice none 0 0] from by repeat (first | (with_reducible exact HB1.out) | (with_reducible refine Blk.alloc ?_ _)))
 have HP5:=hid (show Blk (((((w3.alloc (.cells #[.int .i64 1,.int .i64 1,.func (.func 69) #[] #[]] 152)).alloc (.cells #[.int .i64 2,.int .i64 2,.func (.func 69) #[] #[]] 152)).alloc (.cells #[.int .i64 3,.int .i64 3,.func (.func 69) #[] #[]] 152)).alloc (.cells #[.int .i64 0,.int .i64 801,.func (.func 69) #[] #[]] 152)).alloc (.cells #[.int .i64 1,.int .i64 801,.func (.func 69) #[] #[]] 152)) w.heap.size 50 #[.int .u8 4,.string (ofL x),.int .i64 n,.slice Ak nk ck,.int .i64 a] from by repeat (first | (with_reducible exact HB0.out) | (with_reducible refine Blk.alloc ?_ _)))
 have HL5:=hid (show Below w.heap.size w (((((w3.alloc (.cells #[.int .i64 1,.int .i64 1,.func (.func 69) #[] #[]] 152)).alloc (.cells #[.int .i64 2,.int .i64 2,.func (.func 69) #[] #[]] 152)).alloc (.cells #[.int .i64 3,.int .i64 3,.func (.func 69) #[] #[]] 152)).alloc (.cells #[.int .i64 0,.int .i64 801,.func (.func 69) #[] #[]] 152)).alloc (.cells #[.int .i64 1,.int .i64 801,.func (.func 69) #[] #[]] 152)) from by repeat (first | (with_reducible exact HL3.out) | (with_reducible refine bset ?_ ?_) | (with_reducible refine balloc ?_ ?_) | omega | (simp;omega)))
 have HO5:=hid (show Blk (((((w3.alloc (.cells #[.int .i64 1,.int .i64 1,.func (.func 69) #[] #[]] 152)).alloc (.cells #[.int .i64 2,.int .i64 2,.func (.func 69) #[] #[]] 152)).alloc (.cells #[.int .i64 3,.int .i64 3,.func (.func 69) #[] #[]] 152)).alloc (.cells #[.int .i64 0,.int .i64 801,.func (.func 69) #[] #[]] 152)).alloc (.cells #[.int .i64 1,.int .i64 801,.func (.func 69) #[] #[]] 152)) (w3.heap.size) 152 #[.int .i64 1,.int .i64 1,.func (.func 69) #[] #[]] from by repeat (first | (with_reducible exact blk_top (by first | rfl | simp)) | (with_reducible refine Blk.alloc ?_ _)))
 have hs5:(((((w3.alloc (.cells #[.int .i64 1,.int .i64 1,.func (.func 69) #[] #[]] 152)).alloc (.cells #[.int .i64 2,.int .i64 2,.func (.func 69) #[] #[]] 152)).alloc (.cells #[.int .i64 3,.int .i64 3,.func (.func 69) #[] #[]] 152)).alloc (.cells #[.int .i64 0,.int .i64 801,.func (.func 69) #[] #[]] 152)).alloc (.cells #[.int .i64 1,.int .i64 801,.func (.func 69) #[] #[]] 152)).heap.size=w3.heap.size+1+1+1+1+1:=by simp
 generalize (((((w3.alloc (.cells #[.int .i64 1,.int .i64 1,.func (.func 69) #[] #[]] 152)).alloc (.cells #[.int .i64 2,.int .i64 2,.func (.func 69) #[] #[]] 152)).alloc (.cells #[.int .i64 3,.int .i64 3,.func (.func 69) #[] #[]] 152)).alloc (.cells #[.int .i64 0,.int .i64 801,.func (.func 69) #[] #[]] 152)).alloc (.cells #[.int .i64 1,.int .i64 801,.func (.func 69) #[] #[]] 152))=w5 at HB5 HP5 HL5 hs5 HO5 ⊢
 have o0:=HO5.out.cell 0
 have o1:=HO5.out.cell 1
 have o2:=HO5.out.cell 2
 have ho5:=HO5.out.lt
 have p0:=HP5.out.cell 0
 have p2:=HP5.out.cell 2
 have hs7:w.heap.size+1 < w5.heap.size:=by omega
 have hs8:w.heap.size < w5.heap.size:=by omega
 have HS5:=hid hs5;clear hs5 hz
 have q0:=HB5.out.cell 0
 have q1:=HB5.out.cell 1
 have q2:=HB5.out.cell 2
 have q3:=HB5.out.cell 3
 have r0:=HB5.out.frozen 0
 have r1:=HB5.out.frozen 1
 have r2:=HB5.out.frozen 2
 have r3:=HB5.out.frozen 3
 go_wp2_with fail
 refine (parts_1 _ _ _ _).mono ?_
 rintro e w6 ⟨rfl,hb6⟩
 have HQ:=hid (blk_made hb6)
 have HB6:=hid (show Blk w6 (w.heap.size+1) 119 #[.bool false,.int .i64 0,.int .i64 0,.slice none 0 0] from Blk.below (by repeat (first | (with_reducible exact HB5.out) | (with_reducible refine Blk.alloc ?_ _))) hb6 (by first | omega | (simp;omega)))
 have HL6:=hid (show Below w.heap.size w w6 from Below.trans (by repeat (first | (with_reducible exact HL5.out) | (with_reducible refine bset ?_ ?_) | (with_reducible refine balloc ?_ ?_) | omega | (simp;omega))) (hb6.mono (by first | omega | (simp;omega))))
 clear hb6
 clear q0 q1 q2 q3 r0 r1 r2 r3
 have q0:=HB6.out.cell 0
 have q1:=HB6.out.cell 1
 have q2:=HB6.out.cell 2
 have q3:=HB6.out.cell 3
 have r0:=HB6.out.frozen 0
 have r1:=HB6.out.frozen 1
 have r2:=HB6.out.frozen 2
 have r3:=HB6.out.frozen 3
 go_wp2_with fail
 refine bodyPost_ret (v:=.tuple #[.agg #[.bool false,.int .i64 0,.int .i64 0,.slice (some ⟨w5.heap.size,0,none⟩) 1 1],.bool true]) (by simp [results,Tryz.f103,go_sem,q0,q1,q2,q3]) rfl ?_
 refine⟨_,_,_,_,_,_,_,rfl,?_,rfl,rfl,rfl,rfl,rfl,Nat.le_refl _,?_⟩
 ·repeat (first | (with_reducible exact HL6.out) | (with_reducible refine bset ?_ ?_) | (with_reducible refine balloc ?_ ?_) | omega | (simp;omega))
 ·refine PartsIn.one (T:=152) ?_
  repeat (first | (with_reducible refine Blk.far ?_ ?_ _) | exact HQ.out | (simp;omega))
theorem shape_k5 (x:Bs) (n a:Int) (Ak:Option Addr) (nk ck:Nat) (w:World):Calls Tryz.prog 103 #[.agg #[.int .u8 5,.string (ofL x),.int .i64 n,.slice Ak nk ck,.int .i64 a]] w (ShapePost (Mist.shapeOf 5 n) w):=by
 go_enter Tryz.func103,Tryz.ntmps103
 go_wp2_with fail
 refine (just_expr _ _).mono ?_
 rintro e w1 ⟨rfl,hb1⟩
 go_wp2_with fail
 refine (just_expr _ _).mono ?_
 rintro e w2 ⟨rfl,hb2⟩
 go_wp2_with fail
 refine (just_expr _ _).mono ?_
 rintro e w3 ⟨rfl,hb3⟩
 obtain⟨hB0,hB1,hL3⟩:=pre_facts hb1 hb2 hb3
 have HL3:=hid hL3
 have HB1:=hid hB1
 have HB0:=hid hB0
 have hz:=hB1.lt
 clear hB0 hB1 hL3 hb1 hb2 hb3
 go_upto_region 5 with (fail)
 have HB5:=hid (show Blk (((((w3.alloc (.cells #[.int .i64 1,.int .i64 1,.func (.func 69) #[] #[]] 152)).alloc (.cells #[.int .i64 2,.int .i64 2,.func (.func 69) #[] #[]] 152)).alloc (.cells #[.int .i64 3,.int .i64 3,.func (.func 69) #[] #[]] 152)).alloc (.cells #[.int .i64 0,.int .i64 801,.func (.func 69) #[] #[]] 152)).alloc (.cells #[.int .i64 1,.int .i64 801,.func (.func 69) #[] #[]] 152)) (w.heap.size+1) 119 #[.bool false,.int .i64 0,.int .i64 0,.slice none 0 0] from by repeat (first | (with_reducible exact HB1.out) | (with_reducible refine Blk.alloc ?_ _)))
 have HP5:=hid (show Blk (((((w3.alloc (.cells #[.int .i64 1,.int .i64 1,.func (.func 69) #[] #[]] 152)).alloc (.cells #[.int .i64 2,.int .i64 2,.func (.func 69) #[] #[]] 152)).alloc (.cells #[.int .i64 3,.int .i64 3,.func (.func 69) #[] #[]] 152)).alloc (.cells #[.int .i64 0,.int .i64 801,.func (.func 69) #[] #[]] 152)).alloc (.cells #[.int .i64 1,.int .i64 801,.func (.func 69) #[] #[]] 152)) w.heap.size 50 #[.int .u8 5,.string (ofL x),.int .i64 n,.slice Ak nk ck,.int .i64 a] from by repeat (first | (with_reducible exact HB0.out) | (with_reducible refine Blk.alloc ?_ _)))
 have HL5:=hid (show Below w.heap.size w (((((w3.alloc (.cells #[.int .i64 1,.int .i64 1,.func (.func 69) #[] #[]] 152)).alloc (.cells #[.int .i64 2,.int .i64 2,.func (.func 69) #[] #[]] 152)).alloc (.cells #[.int .i64 3,.int .i64 3,.func (.func 69) #[] #[]] 152)).alloc (.cells #[.int .i64 0,.int .i64 801,.func (.func 69) #[] #[]] 152)).alloc (.cells #[.int .i64 1,.int .i64 801,.func (.func 69) #[] #[]] 152)) from by repeat (first | (with_reducible exact HL3.out) | (with_reducible refine bset ?_ ?_) | (with_reducible refine balloc ?_ ?_) | omega | (simp;omega)))
 have HO5:=hid (show Blk (((((w3.alloc (.cells #[.int .i64 1,.int .i64 1,.func (.func 69) #[] #[]] 152)).alloc (.cells #[.int .i64 2,.int .i64 2,.func (.func 69) #[] #[]] 152)).alloc (.cells #[.int .i64 3,.int .i64 3,.func (.func 69) #[] #[]] 152)).alloc (.cells #[.int .i64 0,.int .i64 801,.func (.func 69) #[] #[]] 152)).alloc (.cells #[.int .i64 1,.int .i64 801,.func (.func 69) #[] #[]] 152)) (w3.heap.size) 152 #[.int .i64 1,.int .i64 1,.func (.func 69) #[] #[]] from by repeat (first | (with_reducible exact blk_top (by first | rfl | simp)) | (with_reducible refine Blk.alloc ?_ _)))
 have hs5:(((((w3.alloc (.cells #[.int .i64 1,.int .i64 1,.func (.func 69) #[] #[]] 152)).alloc (.cells #[.int .i64 2,.int .i64 2,.func (.func 69) #[] #[]] 152)).alloc (.cells #[.int .i64 3,.int .i64 3,.func (.func 69) #[] #[]] 152)).alloc (.cells #[.int .i64 0,.int .i64 801,.func (.func 69) #[] #[]] 152)).alloc (.cells #[.int .i64 1,.int .i64 801,.func (.func 69) #[] #[]] 152)).heap.size=w3.heap.size+1+1+1+1+1:=by simp
 generalize (((((w3.alloc (.cells #[.int .i64 1,.int .i64 1,.func (.func 69) #[] #[]] 152)).alloc (.cells #[.int .i64 2,.int .i64 2,.func (.func 69) #[] #[]] 152)).alloc (.cells #[.int .i64 3,.int .i64 3,.func (.func 69) #[] #[]] 152)).alloc (.cells #[.int .i64 0,.int .i64 801,.func (.func 69) #[] #[]] 152)).alloc (.cells #[.int .i64 1,.int .i64 801,.func (.func 69) #[] #[]] 152))=w5 at HB5 HP5 HL5 hs5 HO5 ⊢
 have o0:=HO5.out.cell 0
 have o1:=HO5.out.cell 1
 have o2:=HO5.out.cell 2
 have ho5:=HO5.out.lt
 have p0:=HP5.out.cell 0
 have p2:=HP5.out.cell 2
 have hs7:w.heap.size+1 < w5.heap.size:=by omega
 have hs8:w.heap.size < w5.heap.size:=by omega
 have HS5:=hid hs5;clear hs5 hz
 have q0:=HB5.out.cell 0
 have q1:=HB5.out.cell 1
 have q2:=HB5.out.cell 2
 have q3:=HB5.out.cell 3
 have r0:=HB5.out.frozen 0
 have r1:=HB5.out.frozen 1
 have r2:=HB5.out.frozen 2
 have r3:=HB5.out.frozen 3
 go_wp2_with fail
 refine (parts_1 _ _ _ _).mono ?_
 rintro e w6 ⟨rfl,hb6⟩
 have HQ:=hid (blk_made hb6)
 have HB6:=hid (show Blk w6 (w.heap.size+1) 119 #[.bool false,.int .i64 0,.int .i64 0,.slice none 0 0] from Blk.below (by repeat (first | (with_reducible exact HB5.out) | (with_reducible refine Blk.alloc ?_ _))) hb6 (by first | omega | (simp;omega)))
 have HL6:=hid (show Below w.heap.size w w6 from Below.trans (by repeat (first | (with_reducible exact HL5.out) | (with_reducible refine bset ?_ ?_) | (with_reducible refine balloc ?_ ?_) | omega | (simp;omega))) (hb6.mono (by first | omega | (simp;omega))))
 clear hb6
 clear q0 q1 q2 q3 r0 r1 r2 r3
 have q0:=HB6.out.cell 0
 have q1:=HB6.out.cell 1
 have q2:=HB6.out.cell 2
 have q3:=HB6.out.cell 3
 have r0:=HB6.out.frozen 0
 have r1:=HB6.out.frozen 1
 have r2:=HB6.out.frozen 2
 have r3:=HB6.out.frozen 3
 go_wp2_with fail
 refine bodyPost_ret (v:=.tuple #[.agg #[.bool false,.int .i64 0,.int .i64 0,.slice (some ⟨w5.heap.size,0,none⟩) 1 1],.bool true]) (by simp [results,Tryz.f103,go_sem,q0,q1,q2,q3]) rfl ?_
 refine⟨_,_,_,_,_,_,_,rfl,?_,rfl,rfl,rfl,rfl,rfl,Nat.le_refl _,?_⟩
 ·repeat (first | (with_reducible exact HL6.out) | (with_reducible refine bset ?_ ?_) | (with_reducible refine balloc ?_ ?_) | omega | (simp;omega))
 ·refine PartsIn.one (T:=152) ?_
  repeat (first | (with_reducible refine Blk.far ?_ ?_ _) | exact HQ.out | (simp;omega))
theorem shape_k19 (x:Bs) (n a:Int) (Ak:Option Addr) (nk ck:Nat) (w:World):Calls Tryz.prog 103 #[.agg #[.int .u8 19,.string (ofL x),.int .i64 n,.slice Ak nk ck,.int .i64 a]] w (ShapePost (Mist.shapeOf 19 n) w):=by
 go_enter Tryz.func103,Tryz.ntmps103
 go_wp2_with fail
 refine (just_expr _ _).mono ?_
 rintro e w1 ⟨rfl,hb1⟩
 go_wp2_with fail
 refine (just_expr _ _).mono ?_
 rintro e w2 ⟨rfl,hb2⟩
 go_wp2_with fail
 refine (just_expr _ _).mono ?_
 rintro e w3 ⟨rfl,hb3⟩
 obtain⟨hB0,hB1,hL3⟩:=pre_facts hb1 hb2 hb3
 have HL3:=hid hL3
 have HB1:=hid hB1
 have HB0:=hid hB0
 have hz:=hB1.lt
 clear hB0 hB1 hL3 hb1 hb2 hb3
 go_upto_region 5 with (fail)
 have HB5:=hid (show Blk (((((w3.alloc (.cells #[.int .i64 1,.int .i64 1,.func (.func 69) #[] #[]] 152)).alloc (.cells #[.int .i64 2,.int .i64 2,.func (.func 69) #[] #[]] 152)).alloc (.cells #[.int .i64 3,.int .i64 3,.func (.func 69) #[] #[]] 152)).alloc (.cells #[.int .i64 0,.int .i64 801,.func (.func 69) #[] #[]] 152)).alloc (.cells #[.int .i64 1,.int .i64 801,.func (.func 69) #[] #[]] 152)) (w.heap.size+1) 119 #[.bool false,.int .i64 0,.int .i64 0,.slice none 0 0] from by repeat (first | (with_reducible exact HB1.out) | (with_reducible refine Blk.alloc ?_ _)))
 have HP5:=hid (show Blk (((((w3.alloc (.cells #[.int .i64 1,.int .i64 1,.func (.func 69) #[] #[]] 152)).alloc (.cells #[.int .i64 2,.int .i64 2,.func (.func 69) #[] #[]] 152)).alloc (.cells #[.int .i64 3,.int .i64 3,.func (.func 69) #[] #[]] 152)).alloc (.cells #[.int .i64 0,.int .i64 801,.func (.func 69) #[] #[]] 152)).alloc (.cells #[.int .i64 1,.int .i64 801,.func (.func 69) #[] #[]] 152)) w.heap.size 50 #[.int .u8 19,.string (ofL x),.int .i64 n,.slice Ak nk ck,.int .i64 a] from by repeat (first | (with_reducible exact HB0.out) | (with_reducible refine Blk.alloc ?_ _)))
 have HL5:=hid (show Below w.heap.size w (((((w3.alloc (.cells #[.int .i64 1,.int .i64 1,.func (.func 69) #[] #[]] 152)).alloc (.cells #[.int .i64 2,.int .i64 2,.func (.func 69) #[] #[]] 152)).alloc (.cells #[.int .i64 3,.int .i64 3,.func (.func 69) #[] #[]] 152)).alloc (.cells #[.int .i64 0,.int .i64 801,.func (.func 69) #[] #[]] 152)).alloc (.cells #[.int .i64 1,.int .i64 801,.func (.func 69) #[] #[]] 152)) from by repeat (first | (with_reducible exact HL3.out) | (with_reducible refine bset ?_ ?_) | (with_reducible refine balloc ?_ ?_) | omega | (simp;omega)))
 have HO5:=hid (show Blk (((((w3.alloc (.cells #[.int .i64 1,.int .i64 1,.func (.func 69) #[] #[]] 152)).alloc (.cells #[.int .i64 2,.int .i64 2,.func (.func 69) #[] #[]] 152)).alloc (.cells #[.int .i64 3,.int .i64 3,.func (.func 69) #[] #[]] 152)).alloc (.cells #[.int .i64 0,.int .i64 801,.func (.func 69) #[] #[]] 152)).alloc (.cells #[.int .i64 1,.int .i64 801,.func (.func 69) #[] #[]] 152)) (w3.heap.size+1+1) 152 #[.int .i64 3,.int .i64 3,.func (.func 69) #[] #[]] from by repeat (first | (with_reducible exact blk_top (by first | rfl | simp)) | (with_reducible refine Blk.alloc ?_ _)))
 have hs5:(((((w3.alloc (.cells #[.int .i64 1,.int .i64 1,.func (.func 69) #[] #[]] 152)).alloc (.cells #[.int .i64 2,.int .i64 2,.func (.func 69) #[] #[]] 152)).alloc (.cells #[.int .i64 3,.int .i64 3,.func (.func 69) #[] #[]] 152)).alloc (.cells #[.int .i64 0,.int .i64 801,.func (.func 69) #[] #[]] 152)).alloc (.cells #[.int .i64 1,.int .i64 801,.func (.func 69) #[] #[]] 152)).heap.size=w3.heap.size+1+1+1+1+1:=by simp
 generalize (((((w3.alloc (.cells #[.int .i64 1,.int .i64 1,.func (.func 69) #[] #[]] 152)).alloc (.cells #[.int .i64 2,.int .i64 2,.func (.func 69) #[] #[]] 152)).alloc (.cells #[.int .i64 3,.int .i64 3,.func (.func 69) #[] #[]] 152)).alloc (.cells #[.int .i64 0,.int .i64 801,.func (.func 69) #[] #[]] 152)).alloc (.cells #[.int .i64 1,.int .i64 801,.func (.func 69) #[] #[]] 152))=w5 at HB5 HP5 HL5 hs5 HO5 ⊢
 have o0:=HO5.out.cell 0
 have o1:=HO5.out.cell 1
 have o2:=HO5.out.cell 2
 have ho5:=HO5.out.lt
 have p0:=HP5.out.cell 0
 have p2:=HP5.out.cell 2
 have hs7:w.heap.size+1 < w5.heap.size:=by omega
 have hs8:w.heap.size < w5.heap.size:=by omega
 have HS5:=hid hs5;clear hs5 hz
 have q0:=HB5.out.cell 0
 have q1:=HB5.out.cell 1
 have q2:=HB5.out.cell 2
 have q3:=HB5.out.cell 3
 have r0:=HB5.out.frozen 0
 have r1:=HB5.out.frozen 1
 have r2:=HB5.out.frozen 2
 have r3:=HB5.out.frozen 3
 go_wp2_with fail
 refine (parts_1 _ _ _ _).mono ?_
 rintro e w6 ⟨rfl,hb6⟩
 have HQ:=hid (blk_made hb6)
 have HB6:=hid (show Blk w6 (w.heap.size+1) 119 #[.bool false,.int .i64 0,.int .i64 0,.slice none 0 0] from Blk.below (by repeat (first | (with_reducible exact HB5.out) | (with_reducible refine Blk.alloc ?_ _))) hb6 (by first | omega | (simp;omega)))
 have HL6:=hid (show Below w.heap.size w w6 from Below.trans (by repeat (first | (with_reducible exact HL5.out) | (with_reducible refine bset ?_ ?_) | (with_reducible refine balloc ?_ ?_) | omega | (simp;omega))) (hb6.mono (by first | omega | (simp;omega))))
 clear hb6
 clear q0 q1 q2 q3 r0 r1 r2 r3
 have q0:=HB6.out.cell 0
 have q1:=HB6.out.cell 1
 have q2:=HB6.out.cell 2
 have q3:=HB6.out.cell 3
 have r0:=HB6.out.frozen 0
 have r1:=HB6.out.frozen 1
 have r2:=HB6.out.frozen 2
 have r3:=HB6.out.frozen 3
 go_wp2_with fail
 refine bodyPost_ret (v:=.tuple #[.agg #[.bool false,.int .i64 0,.int .i64 0,.slice (some ⟨w5.heap.size,0,none⟩) 1 1],.bool true]) (by simp [results,Tryz.f103,go_sem,q0,q1,q2,q3]) rfl ?_
 refine⟨_,_,_,_,_,_,_,rfl,?_,rfl,rfl,rfl,rfl,rfl,Nat.le_refl _,?_⟩
 ·repeat (first | (with_reducible exact HL6.out) | (with_reducible refine bset ?_ ?_) | (with_reducible refine balloc ?_ ?_) | omega | (simp;omega))
 ·refine PartsIn.one (T:=152) ?_
  repeat (first | (with_reducible refine Blk.far ?_ ?_ _) | exact HQ.out | (simp;omega))
theorem shape_k26 (x:Bs) (n a:Int) (Ak:Option Addr) (nk ck:Nat) (w:World):Calls Tryz.prog 103 #[.agg #[.int .u8 26,.string (ofL x),.int .i64 n,.slice Ak nk ck,.int .i64 a]] w (ShapePost (Mist.shapeOf 26 n) w):=by
 go_enter Tryz.func103,Tryz.ntmps103
 go_wp2_with fail
 refine (just_expr _ _).mono ?_
 rintro e w1 ⟨rfl,hb1⟩
 go_wp2_with fail
 refine (just_expr _ _).mono ?_
 rintro e w2 ⟨rfl,hb2⟩
 go_wp2_with fail
 refine (just_expr _ _).mono ?_
 rintro e w3 ⟨rfl,hb3⟩
 obtain⟨hB0,hB1,hL3⟩:=pre_facts hb1 hb2 hb3
 have HL3:=hid hL3
 have HB1:=hid hB1
 have HB0:=hid hB0
 have hz:=hB1.lt
 clear hB0 hB1 hL3 hb1 hb2 hb3
 go_upto_region 5 with (fail)
 have HB5:=hid (show Blk (((((w3.alloc (.cells #[.int .i64 1,.int .i64 1,.func (.func 69) #[] #[]] 152)).alloc (.cells #[.int .i64 2,.int .i64 2,.func (.func 69) #[] #[]] 152)).alloc (.cells #[.int .i64 3,.int .i64 3,.func (.func 69) #[] #[]] 152)).alloc (.cells #[.int .i64 0,.int .i64 801,.func (.func 69) #[] #[]] 152)).alloc (.cells #[.int .i64 1,.int .i64 801,.func (.func 69) #[] #[]] 152)) (w.heap.size+1) 119 #[.bool false,.int .i64 0,.int .i64 0,.slice none 0 0] from by repeat (first | (with_reducible exact HB1.out) | (with_reducible refine Blk.alloc ?_ _)))
 have HP5:=hid (show Blk (((((w3.alloc (.cells #[.int .i64 1,.int .i64 1,.func (.func 69) #[] #[]] 152)).alloc (.cells #[.int .i64 2,.int .i64 2,.func (.func 69) #[] #[]] 152)).alloc (.cells #[.int .i64 3,.int .i64 3,.func (.func 69) #[] #[]] 152)).alloc (.cells #[.int .i64 0,.int .i64 801,.func (.func 69) #[] #[]] 152)).alloc (.cells #[.int .i64 1,.int .i64 801,.func (.func 69) #[] #[]] 152)) w.heap.size 50 #[.int .u8 26,.string (ofL x),.int .i64 n,.slice Ak nk ck,.int .i64 a] from by repeat (first | (with_reducible exact HB0.out) | (with_reducible refine Blk.alloc ?_ _)))
 have HL5:=hid (show Below w.heap.size w (((((w3.alloc (.cells #[.int .i64 1,.int .i64 1,.func (.func 69) #[] #[]] 152)).alloc (.cells #[.int .i64 2,.int .i64 2,.func (.func 69) #[] #[]] 152)).alloc (.cells #[.int .i64 3,.int .i64 3,.func (.func 69) #[] #[]] 152)).alloc (.cells #[.int .i64 0,.int .i64 801,.func (.func 69) #[] #[]] 152)).alloc (.cells #[.int .i64 1,.int .i64 801,.func (.func 69) #[] #[]] 152)) from by repeat (first | (with_reducible exact HL3.out) | (with_reducible refine bset ?_ ?_) | (with_reducible refine balloc ?_ ?_) | omega | (simp;omega)))
 have HO5:=hid (show Blk (((((w3.alloc (.cells #[.int .i64 1,.int .i64 1,.func (.func 69) #[] #[]] 152)).alloc (.cells #[.int .i64 2,.int .i64 2,.func (.func 69) #[] #[]] 152)).alloc (.cells #[.int .i64 3,.int .i64 3,.func (.func 69) #[] #[]] 152)).alloc (.cells #[.int .i64 0,.int .i64 801,.func (.func 69) #[] #[]] 152)).alloc (.cells #[.int .i64 1,.int .i64 801,.func (.func 69) #[] #[]] 152)) (w3.heap.size+1+1+1+1) 152 #[.int .i64 1,.int .i64 801,.func (.func 69) #[] #[]] from by repeat (first | (with_reducible exact blk_top (by first | rfl | simp)) | (with_reducible refine Blk.alloc ?_ _)))
 have hs5:(((((w3.alloc (.cells #[.int .i64 1,.int .i64 1,.func (.func 69) #[] #[]] 152)).alloc (.cells #[.int .i64 2,.int .i64 2,.func (.func 69) #[] #[]] 152)).alloc (.cells #[.int .i64 3,.int .i64 3,.func (.func 69) #[] #[]] 152)).alloc (.cells #[.int .i64 0,.int .i64 801,.func (.func 69) #[] #[]] 152)).alloc (.cells #[.int .i64 1,.int .i64 801,.func (.func 69) #[] #[]] 152)).heap.size=w3.heap.size+1+1+1+1+1:=by simp
 generalize (((((w3.alloc (.cells #[.int .i64 1,.int .i64 1,.func (.func 69) #[] #[]] 152)).alloc (.cells #[.int .i64 2,.int .i64 2,.func (.func 69) #[] #[]] 152)).alloc (.cells #[.int .i64 3,.int .i64 3,.func (.func 69) #[] #[]] 152)).alloc (.cells #[.int .i64 0,.int .i64 801,.func (.func 69) #[] #[]] 152)).alloc (.cells #[.int .i64 1,.int .i64 801,.func (.func 69) #[] #[]] 152))=w5 at HB5 HP5 HL5 hs5 HO5 ⊢
 have o0:=HO5.out.cell 0
 have o1:=HO5.out.cell 1
 have o2:=HO5.out.cell 2
 have ho5:=HO5.out.lt
 have p0:=HP5.out.cell 0
 have p2:=HP5.out.cell 2
 have hs7:w.heap.size+1 < w5.heap.size:=by omega
 have hs8:w.heap.size < w5.heap.size:=by omega
 have HS5:=hid hs5;clear hs5 hz
 have q0:=HB5.out.cell 0
 have q1:=HB5.out.cell 1
 have q2:=HB5.out.cell 2
 have q3:=HB5.out.cell 3
 have r0:=HB5.out.frozen 0
 have r1:=HB5.out.frozen 1
 have r2:=HB5.out.frozen 2
 have r3:=HB5.out.frozen 3
 go_wp2_with fail
 refine (parts_1 _ _ _ _).mono ?_
 rintro e w6 ⟨rfl,hb6⟩
 have HQ:=hid (blk_made hb6)
 have HB6:=hid (show Blk w6 (w.heap.size+1) 119 #[.bool false,.int .i64 0,.int .i64 0,.slice none 0 0] from Blk.below (by repeat (first | (with_reducible exact HB5.out) | (with_reducible refine Blk.alloc ?_ _))) hb6 (by first | omega | (simp;omega)))
 have HL6:=hid (show Below w.heap.size w w6 from Below.trans (by repeat (first | (with_reducible exact HL5.out) | (with_reducible refine bset ?_ ?_) | (with_reducible refine balloc ?_ ?_) | omega | (simp;omega))) (hb6.mono (by first | omega | (simp;omega))))
 clear hb6
 clear q0 q1 q2 q3 r0 r1 r2 r3
 have q0:=HB6.out.cell 0
 have q1:=HB6.out.cell 1
 have q2:=HB6.out.cell 2
 have q3:=HB6.out.cell 3
 have r0:=HB6.out.frozen 0
 have r1:=HB6.out.frozen 1
 have r2:=HB6.out.frozen 2
 have r3:=HB6.out.frozen 3
 go_wp2_with fail
 refine bodyPost_ret (v:=.tuple #[.agg #[.bool false,.int .i64 0,.int .i64 0,.slice (some ⟨w5.heap.size,0,none⟩) 1 1],.bool true]) (by simp [results,Tryz.f103,go_sem,q0,q1,q2,q3]) rfl ?_
 refine⟨_,_,_,_,_,_,_,rfl,?_,rfl,rfl,rfl,rfl,rfl,Nat.le_refl _,?_⟩
 ·repeat (first | (with_reducible exact HL6.out) | (with_reducible refine bset ?_ ?_) | (with_reducible refine balloc ?_ ?_) | omega | (simp;omega))
 ·refine PartsIn.one (T:=152) ?_
  repeat (first | (with_reducible refine Blk.far ?_ ?_ _) | exact HQ.out | (simp;omega))
theorem shape_k20 (x:Bs) (n a:Int) (Ak:Option Addr) (nk ck:Nat) (w:World):Calls Tryz.prog 103 #[.agg #[.int .u8 20,.string (ofL x),.int .i64 n,.slice Ak nk ck,.int .i64 a]] w (ShapePost (Mist.shapeOf 20 n) w):=by
 go_enter Tryz.func103,Tryz.ntmps103
 go_wp2_with fail
 refine (just_expr _ _).mono ?_
 rintro e w1 ⟨rfl,hb1⟩
 go_wp2_with fail
 refine (just_expr _ _).mono ?_
 rintro e w2 ⟨rfl,hb2⟩
 go_wp2_with fail
 refine (just_expr _ _).mono ?_
 rintro e w3 ⟨rfl,hb3⟩
 obtain⟨hB0,hB1,hL3⟩:=pre_facts hb1 hb2 hb3
 have HL3:=hid hL3
 have HB1:=hid hB1
 have HB0:=hid hB0
 have hz:=hB1.lt
 clear hB0 hB1 hL3 hb1 hb2 hb3
 go_upto_region 5 with (fail)
 have HB5:=hid (show Blk (((((w3.alloc (.cells #[.int .i64 1,.int .i64 1,.func (.func 69) #[] #[]] 152)).alloc (.cells #[.int .i64 2,.int .i64 2,.func (.func 69) #[] #[]] 152)).alloc (.cells #[.int .i64 3,.int .i64 3,.func (.func 69) #[] #[]] 152)).alloc (.cells #[.int .i64 0,.int .i64 801,.func (.func 69) #[] #[]] 152)).alloc (.cells #[.int .i64 1,.int .i64 801,.func (.func 69) #[] #[]] 152)) (w.heap.size+1) 119 #[.bool false,.int .i64 0,.int .i64 0,.slice none 0 0] from by repeat (first | (with_reducible exact HB1.out) | (with_reducible refine Blk.alloc ?_ _)))
 have HP5:=hid (show Blk (((((w3.alloc (.cells #[.int .i64 1,.int .i64 1,.func (.func 69) #[] #[]] 152)).alloc (.cells #[.int .i64 2,.int .i64 2,.func (.func 69) #[] #[]] 152)).alloc (.cells #[.int .i64 3,.int .i64 3,.func (.func 69) #[] #[]] 152)).alloc (.cells #[.int .i64 0,.int .i64 801,.func (.func 69) #[] #[]] 152)).alloc (.cells #[.int .i64 1,.int .i64 801,.func (.func 69) #[] #[]] 152)) w.heap.size 50 #[.int .u8 20,.string (ofL x),.int .i64 n,.slice Ak nk ck,.int .i64 a] from by repeat (first | (with_reducible exact HB0.out) | (with_reducible refine Blk.alloc ?_ _)))
 have HL5:=hid (show Below w.heap.size w (((((w3.alloc (.cells #[.int .i64 1,.int .i64 1,.func (.func 69) #[] #[]] 152)).alloc (.cells #[.int .i64 2,.int .i64 2,.func (.func 69) #[] #[]] 152)).alloc (.cells #[.int .i64 3,.int .i64 3,.func (.func 69) #[] #[]] 152)).alloc (.cells #[.int .i64 0,.int .i64 801,.func (.func 69) #[] #[]] 152)).alloc (.cells #[.int .i64 1,.int .i64 801,.func (.func 69) #[] #[]] 152)) from by repeat (first | (with_reducible exact HL3.out) | (with_reducible refine bset ?_ ?_) | (with_reducible refine balloc ?_ ?_) | omega | (simp;omega)))
 have HO5:=hid (show Blk (((((w3.alloc (.cells #[.int .i64 1,.int .i64 1,.func (.func 69) #[] #[]] 152)).alloc (.cells #[.int .i64 2,.int .i64 2,.func (.func 69) #[] #[]] 152)).alloc (.cells #[.int .i64 3,.int .i64 3,.func (.func 69) #[] #[]] 152)).alloc (.cells #[.int .i64 0,.int .i64 801,.func (.func 69) #[] #[]] 152)).alloc (.cells #[.int .i64 1,.int .i64 801,.func (.func 69) #[] #[]] 152)) (w3.heap.size+1) 152 #[.int .i64 2,.int .i64 2,.func (.func 69) #[] #[]] from by repeat (first | (with_reducible exact blk_top (by first | rfl | simp)) | (with_reducible refine Blk.alloc ?_ _)))
 have hs5:(((((w3.alloc (.cells #[.int .i64 1,.int .i64 1,.func (.func 69) #[] #[]] 152)).alloc (.cells #[.int .i64 2,.int .i64 2,.func (.func 69) #[] #[]] 152)).alloc (.cells #[.int .i64 3,.int .i64 3,.func (.func 69) #[] #[]] 152)).alloc (.cells #[.int .i64 0,.int .i64 801,.func (.func 69) #[] #[]] 152)).alloc (.cells #[.int .i64 1,.int .i64 801,.func (.func 69) #[] #[]] 152)).heap.size=w3.heap.size+1+1+1+1+1:=by simp
 generalize (((((w3.alloc (.cells #[.int .i64 1,.int .i64 1,.func (.func 69) #[] #[]] 152)).alloc (.cells #[.int .i64 2,.int .i64 2,.func (.func 69) #[] #[]] 152)).alloc (.cells #[.int .i64 3,.int .i64 3,.func (.func 69) #[] #[]] 152)).alloc (.cells #[.int .i64 0,.int .i64 801,.func (.func 69) #[] #[]] 152)).alloc (.cells #[.int .i64 1,.int .i64 801,.func (.func 69) #[] #[]] 152))=w5 at HB5 HP5 HL5 hs5 HO5 ⊢
 have o0:=HO5.out.cell 0
 have o1:=HO5.out.cell 1
 have o2:=HO5.out.cell 2
 have ho5:=HO5.out.lt
 have p0:=HP5.out.cell 0
 have p2:=HP5.out.cell 2
 have hs7:w.heap.size+1 < w5.heap.size:=by omega
 have hs8:w.heap.size < w5.heap.size:=by omega
 have HS5:=hid hs5;clear hs5 hz
 have q0:=HB5.out.cell 0
 have q1:=HB5.out.cell 1
 have q2:=HB5.out.cell 2
 have q3:=HB5.out.cell 3
 have r0:=HB5.out.frozen 0
 have r1:=HB5.out.frozen 1
 have r2:=HB5.out.frozen 2
 have r3:=HB5.out.frozen 3
 go_wp2_with fail
 refine (parts_2 _ _ _ _).mono ?_
 rintro e w6 ⟨rfl,hb6⟩
 have HQ:=hid (blk_made hb6)
 have HB6:=hid (show Blk w6 (w.heap.size+1) 119 #[.bool false,.int .i64 0,.int .i64 0,.slice none 0 0] from Blk.below (by repeat (first | (with_reducible exact HB5.out) | (with_reducible refine Blk.alloc ?_ _))) hb6 (by first | omega | (simp;omega)))
 have HL6:=hid (show Below w.heap.size w w6 from Below.trans (by repeat (first | (with_reducible exact HL5.out) | (with_reducible refine bset ?_ ?_) | (with_reducible refine balloc ?_ ?_) | omega | (simp;omega))) (hb6.mono (by first | omega | (simp;omega))))
 clear hb6
 clear q0 q1 q2 q3 r0 r1 r2 r3
 have q0:=HB6.out.cell 0
 have q1:=HB6.out.cell 1
 have q2:=HB6.out.cell 2
 have q3:=HB6.out.cell 3
 have r0:=HB6.out.frozen 0
 have r1:=HB6.out.frozen 1
 have r2:=HB6.out.frozen 2
 have r3:=HB6.out.frozen 3
 go_wp2_with fail
 refine bodyPost_ret (v:=.tuple #[.agg #[.bool true,.int .i64 0,.int .i64 0,.slice (some ⟨w5.heap.size,0,none⟩) 1 1],.bool true]) (by simp [results,Tryz.f103,go_sem,q0,q1,q2,q3]) rfl ?_
 refine⟨_,_,_,_,_,_,_,rfl,?_,rfl,rfl,rfl,rfl,rfl,Nat.le_refl _,?_⟩
 ·repeat (first | (with_reducible exact HL6.out) | (with_reducible refine bset ?_ ?_) | (with_reducible refine balloc ?_ ?_) | omega | (simp;omega))
 ·refine PartsIn.one (T:=152) ?_
  repeat (first | (with_reducible refine Blk.far ?_ ?_ _) | exact HQ.out | (simp;omega))
end Go.Proofs.YthepmkjggfijoaaGreatDoor
