/-
  PARTS of the proof: N6D, N6F.
-/
import Derived.Deep.Cut
import Derived.Test.YthepmkjggfijoaaGreatDoorB22
set_option linter.all false
set_option maxRecDepth 100000
set_option maxHeartbeats 4000000
open Go.Lib (hid)
namespace Go.Proofs.YthepmkjggfijoaaGreatDoor
open Go.RowKit Mist
attribute [local go_sem] ofL_extract ofL_size ofL_get ofL_bytes ofL_append
theorem shape_k24 (x:Bs) (n a:Int) (Ak:Option Addr) (nk ck:Nat) (w:World):Calls Tryz.prog 103 #[.agg #[.int .u8 24,.string (ofL x),.int .i64 n,.slice Ak nk ck,.int .i64 a]] w (ShapePost (Mist.shapeOf 24 n) w):=by
 go_enter Tryz.func103,Tryz.ntmps103
 go_wp2_with fail
 refine (just_expr _ _).mono ?_
 rintro e w1 ⟨rfl,hb1⟩
 go_wp2_with fail
 refine (just_expr _ _).mono ?_
 rintro e w2 ⟨rfl,hb2⟩
 go_wp2_with fail
 refine (just_expr _ _).mono ?_
 rintro e w3 ⟨rfl,hb3⟩
 obtain⟨hB0,hB1,hL3⟩:=pre_facts hb1 hb2 hb3
 have HL3:=hid hL3
 have HB1:=hid hB1
 have HB0:=hid hB0
 have hz:=hB1.lt
 clear hB0 hB1 hL3 hb1 hb2 hb3
 go_upto_region 5 with (fail)
 have HB5:=hid (show Blk (((((w3.alloc (.cells #[.int .i64 1,.int .i64 1,.func (.func 69) #[] #[]] 152)).alloc (.cells #[.int .i64 2,.int .i64 2,.func (.func 69) #[] #[]] 152)).alloc (.cells #[.int .i64 3,.int .i64 3,.func (.func 69) #[] #[]] 152)).alloc (.cells #[.int .i64 0,.int .i64 801,.func (.func 69) #[] #[]] 152)).alloc (.cells #[.int .i64 1,.int .i64 801,.func (.func 69) #[] #[]] 152)) (w.heap.size+1) 119 #[.bool false,.int .i64 0,.int .i64 0,.slice none 0 0] from by repeat (first | (with_reducible exact HB1.out) | (with_reducible refine Blk.alloc ?_ _)))
 have HP5:=hid (show Blk (((((w3.alloc (.cells #[.int .i64 1,.int .i64 1,.func (.func 69) #[] #[]] 152)).alloc (.cells #[.int .i64 2,.int .i64 2,.func (.func 69) #[] #[]] 152)).alloc (.cells #[.int .i64 3,.int .i64 3,.func (.func 69) #[] #[]] 152)).alloc (.cells #[.int .i64 0,.int .i64 801,.func (.func 69) #[] #[]] 152)).alloc (.cells #[.int .i64 1,.int .i64 801,.func (.func 69) #[] #[]] 152)) w.heap.size 50 #[.int .u8 24,.string (ofL x),.int .i64 n,.slice Ak nk ck,.int .i64 a] from by repeat (first | (with_reducible exact HB0.out) | (with_reducible refine Blk.alloc ?_ _)))
 have HL5:=hid (show Below w.heap.size w (((((w3.alloc (.cells #[.int .i64 1,.int .i64 1,.func (.func 69) #[] #[]] 152)).alloc (.cells #[.int .i64 2,.int .i64 2,.func (.func 69) #[] #[]] 152)).alloc (.cells #[.int .i64 3,.int .i64 3,.func (.func 69) #[] #[]] 152)).alloc (.cells #[.int .i64 0,.int .i64 801,.func (.func 69) #[] #[]] 152)).alloc (.cells #[.int .i64 1,.int .i64 801,.func (.func 69) #[] #[]] 152)) from by repeat (first | (with_reducible exact HL3.out) | (with_reducible refine bset ?_ ?_) | (with_reducible refine balloc ?_ ?_) | omega | (simp;omega)))
 have hs5:(((((w3.alloc (.cells #[.int .i64 1,.int .i64 1,.func (.func 69) #[] #[]] 152)).alloc (.cells #[.int .i64 2,.int .i64 2,.func (.func 69) #[] #[]] 152)).alloc (.cells #[.int .i64 3,.int .i64 3,.func (.func 69) #[] #[]] 152)).alloc (.cells #[.int .i64 0,.int .i64 801,.func (.func 69) #[] #[]] 152)).alloc (.cells #[.int .i64 1,.int .i64 801,.func (.func 69) #[] #[]] 152)).heap.size=w3.heap.size+1+1+1+1+1:=by simp
 generalize (((((w3.alloc (.cells #[.int .i64 1,.int .i64 1,.func (.func 69) #[] #[]] 152)).alloc (.cells #[.int .i64 2,.int .i64 2,.func (.func 69) #[] #[]] 152)).alloc (.cells #[.int .i64 3,.int .i64 3,.func (.func 69) #[] #[]] 152)).alloc (.cells #[.int .i64 0,.int .i64 801,.func (.func 69) #[] #[]] 152)).alloc (.cells #[.int .i64 1,.int .i64 801,.func (.func 69) #[] #[]] 152))=w5 at HB5 HP5 HL5 hs5 ⊢
 have p0:=HP5.out.cell 0
 have p2:=HP5.out.cell 2
 have hs7:w.heap.size+1 < w5.heap.size:=by omega
 have hs8:w.heap.size < w5.heap.size:=by omega
 have HS5:=hid hs5;clear hs5 hz
 have q0:=HB5.out.cell 0
 have q1:=HB5.out.cell 1
 have q2:=HB5.out.cell 2
 have q3:=HB5.out.cell 3
 have r0:=HB5.out.frozen 0
 have r1:=HB5.out.frozen 1
 have r2:=HB5.out.frozen 2
 have r3:=HB5.out.frozen 3
 go_wp2_with fail
 refine (parts_2 _ _ _ _).mono ?_
 rintro e w6 ⟨rfl,hb6⟩
 have HQ:=hid (blk_made hb6)
 have HB6:=hid (show Blk w6 (w.heap.size+1) 119 #[.bool false,.int .i64 0,.int .i64 0,.slice none 0 0] from Blk.below (by repeat (first | (with_reducible exact HB5.out) | (with_reducible refine Blk.alloc ?_ _))) hb6 (by first | omega | (simp;omega)))
 have HL6:=hid (show Below w.heap.size w w6 from Below.trans (by repeat (first | (with_reducible exact HL5.out) | (with_reducible refine bset ?_ ?_) | (with_reducible refine balloc ?_ ?_) | omega | (simp;omega))) (hb6.mono (by first | omega | (simp;omega))))
 clear hb6
 clear q0 q1 q2 q3 r0 r1 r2 r3
 have q0:=HB6.out.cell 0
 have q1:=HB6.out.cell 1
 have q2:=HB6.out.cell 2
 have q3:=HB6.out.cell 3
 have r0:=HB6.out.frozen 0
 have r1:=HB6.out.frozen 1
 have r2:=HB6.out.frozen 2
 have r3:=HB6.out.frozen 3
 go_wp2_with fail
 refine bodyPost_ret (v:=.tuple #[.agg #[.bool true,.int .i64 0,.int .i64 0,.slice (some ⟨w5.heap.size,0,none⟩) 1 1],.bool true]) (by simp [results,Tryz.f103,go_sem,q0,q1,q2,q3]) rfl ?_
 refine⟨_,_,_,_,_,_,_,rfl,?_,rfl,rfl,rfl,rfl,rfl,Nat.le_refl _,?_⟩
 ·repeat (first | (with_reducible exact HL6.out) | (with_reducible refine bset ?_ ?_) | (with_reducible refine balloc ?_ ?_) | omega | (simp;omega))
 ·refine PartsIn.one (T:=152) ?_
  repeat (first | (with_reducible refine Blk.far ?_ ?_ _) | exact HQ.out | (simp;omega))
theorem shape_k41 (x:Bs) (n a:Int) (Ak:Option Addr) (nk ck:Nat) (w:World):Calls Tryz.prog 103 #[.agg #[.int .u8 41,.string (ofL x),.int .i64 n,.slice Ak nk ck,.int .i64 a]] w (ShapePost (Mist.shapeOf 41 n) w):=by
 go_enter Tryz.func103,Tryz.ntmps103
 go_wp2_with fail
 refine (just_expr _ _).mono ?_
 rintro e w1 ⟨rfl,hb1⟩
 go_wp2_with fail
 refine (just_expr _ _).mono ?_
 rintro e w2 ⟨rfl,hb2⟩
 go_wp2_with fail
 refine (just_expr _ _).mono ?_
 rintro e w3 ⟨rfl,hb3⟩
 obtain⟨hB0,hB1,hL3⟩:=pre_facts hb1 hb2 hb3
 have HL3:=hid hL3
 have HB1:=hid hB1
 have HB0:=hid hB0
 have hz:=hB1.lt
 clear hB0 hB1 hL3 hb1 hb2 hb3
 go_upto_region 5 with (fail)
 have HB5:=hid (show Blk (((((w3.alloc (.cells #[.int .i64 1,.int .i64 1,.func (.func 69) #[] #[]] 152)).alloc (.cells #[.int .i64 2,.int .i64 2,.func (.func 69) #[] #[]] 152)).alloc (.cells #[.int .i64 3,.int .i64 3,.func (.func 69) #[] #[]] 152)).alloc (.cells #[.int .i64 0,.int .i64 801,.func (.func 69) #[] #[]] 152)).alloc (.cells #[.int .i64 1,.int .i64 801,.func (.func 69) #[] #[]] 152)) (w.heap.size+1) 119 #[.bool false,.int .i64 0,.int .i64 0,.slice none 0 0] from by repeat (first | (with_reducible exact HB1.out) | (with_reducible refine Blk.alloc ?_ _)))
 have HP5:=hid (show Blk (((((w3.alloc (.cells #[.int .i64 1,.int .i64 1,.func (.func 69) #[] #[]] 152)).alloc (.cells #[.int .i64 2,.int .i64 2,.func (.func 69) #[] #[]] 152)).alloc (.cells #[.int .i64 3,.int .i64 3,.func (.func 69) #[] #[]] 152)).alloc (.cells #[.int .i64 0,.int .i64 801,.func (.func 69) #[] #[]] 152)).alloc (.cells #[.int .i64 1,.int .i64 801,.func (.func 69) #[] #[]] 152)) w.heap.size 50 #[.int .u8 41,.string (ofL x),.int .i64 n,.slice Ak nk ck,.int .i64 a] from by repeat (first | (with_reducible exact HB0.out) | (with_reducible refine Blk.alloc ?_ _)))
 have HL5:=hid (show Below w.heap.size w (((((w3.alloc (.cells #[.int .i64 1,.int .i64 1,.func (.func 69) #[] #[]] 152)).alloc (.cells #[.int .i64 2,.int .i64 2,.func (.func 69) #[] #[]] 152)).alloc (.cells #[.int .i64 3,.int .i64 3,.func (.func 69) #[] #[]] 152)).alloc (.cells #[.int .i64 0,.int .i64 801,.func (.func 69) #[] #[]] 152)).alloc (.cells #[.int .i64 1,.int .i64 801,.func (.func 69) #[] #[]] 152)) from by repeat (first | (with_reducible exact HL3.out) | (with_reducible refine bset ?_ ?_) | (with_reducible refine balloc ?_ ?_) | omega | (simp;omega)))
 have hs5:(((((w3.alloc (.cells #[.int .i64 1,.int .i64 1,.func (.func 69) #[] #[]] 152)).alloc (.cells #[.int .i64 2,.int .i64 2,.func (.func 69) #[] #[]] 152)).alloc (.cells #[.int .i64 3,.int .i64 3,.func (.func 69) #[] #[]] 152)).alloc (.cells #[.int .i64 0,.int .i64 801,.func (.func 69) #[] #[]] 152)).alloc (.cells #[.int .i64 1,.int .i64 801,.func (.func 69) #[] #[]] 152)).heap.size=w3.heap.size+1+1+1+1+1:=by simp
 generalize (((((w3.alloc (.cells #[.int .i64 1,.int .i64 1,.func (.func 69) #[] #[]] 152)).alloc (.cells #[.int .i64 2,.int .i64 2,.func (.func 69) #[] #[]] 152)).alloc (.cells #[.int .i64 3,.int .i64 3,.func (.func 69) #[] #[]] 152)).alloc (.cells #[.int .i64 0,.int .i64 801,.func (.func 69) #[] #[]] 152)).alloc (.cells #[.int .i64 1,.int .i64 801,.func (.func 69) #[] #[]] 152))=w5 at HB5 HP5 HL5 hs5 ⊢
 have p0:=HP5.out.cell 0
 have p2:=HP5.out.cell 2
 have hs7:w.heap.size+1 < w5.heap.size:=by omega
 have hs8:w.heap.size < w5.heap.size:=by omega
 have HS5:=hid hs5;clear hs5 hz
 have q0:=HB5.out.cell 0
 have q1:=HB5.out.cell 1
 have q2:=HB5.out.cell 2
 have q3:=HB5.out.cell 3
 have r0:=HB5.out.frozen 0
 have r1:=HB5.out.frozen 1
 have r2:=HB5.out.frozen 2
 have r3:=HB5.out.frozen 3
 go_wp2_with fail
 refine (parts_2 _ _ _ _).mono ?_
 rintro e w6 ⟨rfl,hb6⟩
 have HQ:=hid (blk_made hb6)
 have HB6:=hid (show Blk w6 (w.heap.size+1) 119 #[.bool false,.int .i64 0,.int .i64 0,.slice none 0 0] from Blk.below (by repeat (first | (with_reducible exact HB5.out) | (with_reducible refine Blk.alloc ?_ _))) hb6 (by first | omega | (simp;omega)))
 have HL6:=hid (show Below w.heap.size w w6 from Below.trans (by repeat (first | (with_reducible exact HL5.out) | (with_reducible refine bset ?_ ?_) | (with_reducible refine balloc ?_ ?_) | omega | (simp;omega))) (hb6.mono (by first | omega | (simp;omega))))
 clear hb6
 clear q0 q1 q2 q3 r0 r1 r2 r3
 have q0:=HB6.out.cell 0
 have q1:=HB6.out.cell 1
 have q2:=HB6.out.cell 2
 have q3:=HB6.out.cell 3
 have r0:=HB6.out.frozen 0
 have r1:=HB6.out.frozen 1
 have r2:=HB6.out.frozen 2
 have r3:=HB6.out.frozen 3
 go_wp2_with fail
 refine bodyPost_ret (v:=.tuple #[.agg #[.bool true,.int .i64 0,.int .i64 0,.slice (some ⟨w5.heap.size,0,none⟩) 1 1],.bool true]) (by simp [results,Tryz.f103,go_sem,q0,q1,q2,q3]) rfl ?_
 refine⟨_,_,_,_,_,_,_,rfl,?_,rfl,rfl,rfl,rfl,rfl,Nat.le_refl _,?_⟩
 ·repeat (first | (with_reducible exact HL6.out) | (with_reducible refine bset ?_ ?_) | (with_reducible refine balloc ?_ ?_) | omega | (simp;omega))
 ·refine PartsIn.one (T:=152) ?_
  repeat (first | (with_reducible refine Blk.far ?_ ?_ _) | exact HQ.out | (simp;omega))
theorem shape_k34 (x:Bs) (n a:Int) (Ak:Option Addr) (nk ck:Nat) (w:World):Calls Tryz.prog 103 #[.agg #[.int .u8 34,.string (ofL x),.int .i64 n,.slice Ak nk ck,.int .i64 a]] w (ShapePost (Mist.shapeOf 34 n) w):=by
 go_enter Tryz.func103,Tryz.ntmps103
 go_wp2_with fail
 refine (just_expr _ _).mono ?_
 rintro e w1 ⟨rfl,hb1⟩
 go_wp2_with fail
 refine (just_expr _ _).mono ?_
 rintro e w2 ⟨rfl,hb2⟩
 go_wp2_with fail
 refine (just_expr _ _).mono ?_
 rintro e w3 ⟨rfl,hb3⟩
 obtain⟨hB0,hB1,hL3⟩:=pre_facts hb1 hb2 hb3
 have HL3:=hid hL3
 have HB1:=hid hB1
 have HB0:=hid hB0
 have hz:=hB1.lt
 clear hB0 hB1 hL3 hb1 hb2 hb3
 go_upto_region 5 with (fail)
 have HB5:=hid (show Blk (((((w3.alloc (.cells #[.int .i64 1,.int .i64 1,.func (.func 69) #[] #[]] 152)).alloc (.cells #[.int .i64 2,.int .i64 2,.func (.func 69) #[] #[]] 152)).alloc (.cells #[.int .i64 3,.int .i64 3,.func (.func 69) #[] #[]] 152)).alloc (.cells #[.int .i64 0,.int .i64 801,.func (.func 69) #[] #[]] 152)).alloc (.cells #[.int .i64 1,.int .i64 801,.func (.func 69) #[] #[]] 152)) (w.heap.size+1) 119 #[.bool false,.int .i64 0,.int .i64 0,.slice none 0 0] from by repeat (first | (with_reducible exact HB1.out) | (with_reducible refine Blk.alloc ?_ _)))
 have HP5:=hid (show Blk (((((w3.alloc (.cells #[.int .i64 1,.int .i64 1,.func (.func 69) #[] #[]] 152)).alloc (.cells #[.int .i64 2,.int .i64 2,.func (.func 69) #[] #[]] 152)).alloc (.cells #[.int .i64 3,.int .i64 3,.func (.func 69) #[] #[]] 152)).alloc (.cells #[.int .i64 0,.int .i64 801,.func (.func 69) #[] #[]] 152)).alloc (.cells #[.int .i64 1,.int .i64 801,.func (.func 69) #[] #[]] 152)) w.heap.size 50 #[.int .u8 34,.string (ofL x),.int .i64 n,.slice Ak nk ck,.int .i64 a] from by repeat (first | (with_reducible exact HB0.out) | (with_reducible refine Blk.alloc ?_ _)))
 have HL5:=hid (show Below w.heap.size w (((((w3.alloc (.cells #[.int .i64 1,.int .i64 1,.func (.func 69) #[] #[]] 152)).alloc (.cells #[.int .i64 2,.int .i64 2,.func (.func 69) #[] #[]] 152)).alloc (.cells #[.int .i64 3,.int .i64 3,.func (.func 69) #[] #[]] 152)).alloc (.cells #[.int .i64 0,.int .i64 801,.func (.func 69) #[] #[]] 152)).alloc (.cells #[.int .i64 1,.int .i64 801,.func (.func 69) #[] #[]] 152)) from by repeat (first | (with_reducible exact HL3.out) | (with_reducible refine bset ?_ ?_) | (with_reducible refine balloc ?_ ?_) | omega | (simp;omega)))
 have hs5:(((((w3.alloc (.cells #[.int .i64 1,.int .i64 1,.func (.func 69) #[] #[]] 152)).alloc (.cells #[.int .i64 2,.int .i64 2,.func (.func 69) #[] #[]] 152)).alloc (.cells #[.int .i64 3,.int .i64 3,.func (.func 69) #[] #[]] 152)).alloc (.cells #[.int .i64 0,.int .i64 801,.func (.func 69) #[] #[]] 152)).alloc (.cells #[.int .i64 1,.int .i64 801,.func (.func 69) #[] #[]] 152)).heap.size=w3.heap.size+1+1+1+1+1:=by simp
 generalize (((((w3.alloc (.cells #[.int .i64 1,.int .i64 1,.func (.func 69) #[] #[]] 152)).alloc (.cells #[.int .i64 2,.int .i64 2,.func (.func 69) #[] #[]] 152)).alloc (.cells #[.int .i64 3,.int .i64 3,.func (.func 69) #[] #[]] 152)).alloc (.cells #[.int .i64 0,.int .i64 801,.func (.func 69) #[] #[]] 152)).alloc (.cells #[.int .i64 1,.int .i64 801,.func (.func 69) #[] #[]] 152))=w5 at HB5 HP5 HL5 hs5 ⊢
 have p0:=HP5.out.cell 0
 have p2:=HP5.out.cell 2
 have hs7:w.heap.size+1 < w5.heap.size:=by omega
 have hs8:w.heap.size < w5.heap.size:=by omega
 have HS5:=hid hs5;clear hs5 hz
 have q0:=HB5.out.cell 0
 have q1:=HB5.out.cell 1
 have q2:=HB5.out.cell 2
 have q3:=HB5.out.cell 3
 have r0:=HB5.out.frozen 0
 have r1:=HB5.out.frozen 1
 have r2:=HB5.out.frozen 2
 have r3:=HB5.out.frozen 3
 go_wp2_with fail
 refine (just_typ _ _).mono ?_
 rintro e w6 ⟨rfl,hb6⟩
 have HB6:=hid (show Blk w6 (w.heap.size+1) 119 #[.bool false,.int .i64 0,.int .i64 0,.slice none 0 0] from Blk.below (by repeat (first | (with_reducible exact HB5.out) | (with_reducible refine Blk.alloc ?_ _))) hb6 (by first | omega | (simp;omega)))
 have HL6:=hid (show Below w.heap.size w w6 from Below.trans (by repeat (first | (with_reducible exact HL5.out) | (with_reducible refine bset ?_ ?_) | (with_reducible refine balloc ?_ ?_) | omega | (simp;omega))) (hb6.mono (by first | omega | (simp;omega))))
 clear hb6
 clear q0 q1 q2 q3 r0 r1 r2 r3
 have q0:=HB6.out.cell 0
 have q1:=HB6.out.cell 1
 have q2:=HB6.out.cell 2
 have q3:=HB6.out.cell 3
 have r0:=HB6.out.frozen 0
 have r1:=HB6.out.frozen 1
 have r2:=HB6.out.frozen 2
 have r3:=HB6.out.frozen 3
 have hs9:=HB6.out.lt
 go_wp2_with fail
 refine (parts_2 _ _ _ _).mono ?_
 rintro e w7 ⟨rfl,hb7⟩
 have HQ:=hid (blk_made hb7)
 have HB7:=hid (show Blk w7 (w.heap.size+1) 119 #[.bool false,.int .i64 0,.int .i64 0,.slice none 0 0] from Blk.below (by repeat (first | (with_reducible exact HB6.out) | (with_reducible refine Blk.alloc ?_ _))) hb7 (by first | omega | (simp;omega)))
 have HL7:=hid (show Below w.heap.size w w7 from Below.trans (by repeat (first | (with_reducible exact HL6.out) | (with_reducible refine bset ?_ ?_) | (with_reducible refine balloc ?_ ?_) | omega | (simp;omega))) (hb7.mono (by first | omega | (simp;omega))))
 clear hb7
 clear q0 q1 q2 q3 r0 r1 r2 r3
 have q0:=HB7.out.cell 0
 have q1:=HB7.out.cell 1
 have q2:=HB7.out.cell 2
 have q3:=HB7.out.cell 3
 have r0:=HB7.out.frozen 0
 have r1:=HB7.out.frozen 1
 have r2:=HB7.out.frozen 2
 have r3:=HB7.out.frozen 3
 go_wp2_with fail
 refine bodyPost_ret (v:=.tuple #[.agg #[.bool true,.int .i64 0,.int .i64 0,.slice (some ⟨w6.heap.size,0,none⟩) 1 1],.bool true]) (by simp [results,Tryz.f103,go_sem,q0,q1,q2,q3]) rfl ?_
 refine⟨_,_,_,_,_,_,_,rfl,?_,rfl,rfl,rfl,rfl,rfl,Nat.le_refl _,?_⟩
 ·repeat (first | (with_reducible exact HL7.out) | (with_reducible refine bset ?_ ?_) | (with_reducible refine balloc ?_ ?_) | omega | (simp;omega))
 ·refine PartsIn.one (T:=152) ?_
  repeat (first | (with_reducible refine Blk.far ?_ ?_ _) | exact HQ.out | (simp;omega))
theorem shape_k40 (x:Bs) (n a:Int) (Ak:Option Addr) (nk ck:Nat) (w:World):Calls Tryz.prog 103 #[.agg #[.int .u8 40,.string (ofL x),.int .i64 n,.slice Ak nk ck,.int .i64 a]] w (ShapePost (Mist.shapeOf 40 n) w):=by
 go_enter Tryz.func103,Tryz.ntmps103
 go_wp2_with fail
 refine (just_expr _ _).mono ?_
 rintro e w1 ⟨rfl,hb1⟩
 go_wp2_with fail
 refine (just_expr _ _).mono ?_
 rintro e w2 ⟨rfl,hb2⟩
 go_wp2_with fail
 refine (just_expr _ _).mono ?_
 rintro e w3 ⟨rfl,hb3⟩
 obtain⟨hB0,hB1,hL3⟩:=pre_facts hb1 hb2 hb3
 have HL3:=hid hL3
 have HB1:=hid hB1
 have HB0:=hid hB0
 have hz:=hB1.lt
 clear hB0 hB1 hL3 hb1 hb2 hb3
 go_upto_region 5 with (fail)
 have HB5:=hid (show Blk (((((w3.alloc (.cells #[.int .i64 1,.int .i64 1,.func (.func 69) #[] #[]] 152)).alloc (.cells #[.int .i64 2,.int .i64 2,.func (.func 69) #[] #[]] 152)).alloc (.cells #[.int .i64 3,.int .i64 3,.func (.func 69) #[] #[]] 152)).alloc (.cells #[.int .i64 0,.int .i64 801,.func (.func 69) #[] #[]] 152)).alloc (.cells #[.int .i64 1,.int .i64 801,.func (.func 69) #[] #[]] 152)) (w.heap.size+1) 119 #[.bool false,.int .i64 0,.int .i64 0,.slice none 0 0] from by repeat (first | (with_reducible exact HB1.out) | (with_reducible refine Blk.alloc ?_ _)))
 have HP5:=hid (show Blk (((((w3.alloc (.cells #[.int .i64 1,.int .i64 1,.func (.func 69) #[] #[]] 152)).alloc (.cells #[.int .i64 2,.int .i64 2,.func (.func 69) #[] #[]] 152)).alloc (.cells #[.int .i64 3,.int .i64 3,.func (.func 69) #[] #[]] 152)).alloc (.cells #[.int .i64 0,.int .i64 801,.func (.func 69) #[] #[]] 152)).alloc (.cells #[.int .i64 1,.int .i64 801,.func (.func 69) #[] #[]] 152)) w.heap.size 50 #[.int .u8 40,.string (ofL x),.int .i64 n,.slice Ak nk ck,.int .i64 a] from by repeat (first | (with_reducible exact HB0.out) | (with_reducible refine Blk.alloc ?_ _)))
 have HL5:=hid (show Below w.heap.size w (((((w3.alloc (.cells #[.int .i64 1,.int .i64 1,.func (.func 69) #[] #[]] 152)).alloc (.cells #[.int .i64 2,.int .i64 2,.func (.func 69) #[] #[]] 152)).alloc (.cells #[.int .i64 3,.int .i64 3,.func (.func 69) #[] #[]] 152)).alloc (.cells #[.int .i64 0,.int .i64 801,.func (.func 69) #[] #[]] 152)).alloc (.cells #[.int .i64 1,.int .i64 801,.func (.func 69) #[] #[]] 152)) from by repeat (first | (with_reducible exact HL3.out) | (with_reducible refine bset ?_ ?_) | (with_reducible refine balloc ?_ ?_) | omega | (simp;omega)))
 have hs5:(((((w3.alloc (.cells #[.int .i64 1,.int .i64 1,.func (.func 69) #[] #[]] 152)).alloc (.cells #[.int .i64 2,.int .i64 2,.func (.func 69) #[] #[]] 152)).alloc (.cells #[.int .i64 3,.int .i64 3,.func (.func 69) #[] #[]] 152)).alloc (.cells #[.int .i64 0,.int .i64 801,.func (.func 69) #[] #[]] 152)).alloc (.cells #[.int .i64 1,.int .i64 801,.func (.func 69) #[] #[]] 152)).heap.size=w3.heap.size+1+1+1+1+1:=by simp
 generalize (((((w3.alloc (.cells #[.int .i64 1,.int .i64 1,.func (.func 69) #[] #[]] 152)).alloc (.cells #[.int .i64 2,.int .i64 2,.func (.func 69) #[] #[]] 152)).alloc (.cells #[.int .i64 3,.int .i64 3,.func (.func 69) #[] #[]] 152)).alloc (.cells #[.int .i64 0,.int .i64 801,.func (.func 69) #[] #[]] 152)).alloc (.cells #[.int .i64 1,.int .i64 801,.func (.func 69) #[] #[]] 152))=w5 at HB5 HP5 HL5 hs5 ⊢
 have p0:=HP5.out.cell 0
 have p2:=HP5.out.cell 2
 have hs7:w.heap.size+1 < w5.heap.size:=by omega
 have hs8:w.heap.size < w5.heap.size:=by omega
 have HS5:=hid hs5;clear hs5 hz
 have q0:=HB5.out.cell 0
 have q1:=HB5.out.cell 1
 have q2:=HB5.out.cell 2
 have q3:=HB5.out.cell 3
 have r0:=HB5.out.frozen 0
 have r1:=HB5.out.frozen 1
 have r2:=HB5.out.frozen 2
 have r3:=HB5.out.frozen 3
 go_wp2_with fail
 refine (just_num _ _).mono ?_
 rintro e w6 ⟨rfl,hb6⟩
 have HB6:=hid (show Blk w6 (w.heap.size+1) 119 #[.bool false,.int .i64 0,.int .i64 0,.slice none 0 0] from Blk.below (by repeat (first | (with_reducible exact HB5.out) | (with_reducible refine Blk.alloc ?_ _))) hb6 (by first | omega | (simp;omega)))
 have HL6:=hid (show Below w.heap.size w w6 from Below.trans (by repeat (first | (with_reducible exact HL5.out) | (with_reducible refine bset ?_ ?_) | (with_reducible refine balloc ?_ ?_) | omega | (simp;omega))) (hb6.mono (by first | omega | (simp;omega))))
 clear hb6
 clear q0 q1 q2 q3 r0 r1 r2 r3
 have q0:=HB6.out.cell 0
 have q1:=HB6.out.cell 1
 have q2:=HB6.out.cell 2
 have q3:=HB6.out.cell 3
 have r0:=HB6.out.frozen 0
 have r1:=HB6.out.frozen 1
 have r2:=HB6.out.frozen 2
 have r3:=HB6.out.frozen 3
 have hs9:=HB6.out.lt
 go_wp2_with fail
 refine (parts_2 _ _ _ _).mono ?_
 rintro e w7 ⟨rfl,hb7⟩
 have HQ:=hid (blk_made hb7)
 have HB7:=hid (show Blk w7 (w.heap.size+1) 119 #[.bool false,.int .i64 0,.int .i64 0,.slice none 0 0] from Blk.below (by repeat (first | (with_reducible exact HB6.out) | (with_reducible refine Blk.alloc ?_ _))) hb7 (by first | omega | (simp;omega)))
 have HL7:=hid (show Below w.heap.size w w7 from Below.trans (by repeat (first | (with_reducible exact HL6.out) | (with_reducible refine bset ?_ ?_) | (with_reducible refine balloc ?_ ?_) | omega | (simp;omega))) (hb7.mono (by first | omega | (simp;omega))))
 clear hb7
 clear q0 q1 q2 q3 r0 r1 r2 r3
 have q0:=HB7.out.cell 0
 have q1:=HB7.out.cell 1
 have q2:=HB7.out.cell 2
 have q3:=HB7.out.cell 3
 have r0:=HB7.out.frozen 0
 have r1:=HB7.out.frozen 1
 have r2:=HB7.out.frozen 2
 have r3:=HB7.out.frozen 3
 go_wp2_with fail
 refine bodyPost_ret (v:=.tuple #[.agg #[.bool true,.int .i64 0,.int .i64 0,.slice (some ⟨w6.heap.size,0,none⟩) 1 1],.bool true]) (by simp [results,Tryz.f103,go_sem,q0,q1,q2,q3]) rfl ?_
 refine⟨_,_,_,_,_,_,_,rfl,?_,rfl,rfl,rfl,rfl,rfl,Nat.le_refl _,?_⟩
 ·repeat (first | (with_reducible exact HL7.out) | (with_reducible refine bset ?_ ?_) | (with_reducible refine balloc ?_ ?_) | omega | (simp;omega))
 ·refine PartsIn.one (T:=152) ?_
  repeat (first | (with_reducible refine Blk.far ?_ ?_ _) | exact HQ.out | (simp;omega))
theorem shape_k33 (x:Bs) (n a:Int) (Ak:Option Addr) (nk ck:Nat) (w:World):Calls Tryz.prog 103 #[.agg #[.int .u8 33,.string (ofL x),.int .i64 n,.slice Ak nk ck,.int .i64 a]] w (ShapePost (Mist.shapeOf 33 n) w):=by
 go_enter Tryz.func103,Tryz.ntmps103
 go_wp2_with fail
 refine (just_expr _ _).mono ?_
 rintro e w1 ⟨rfl,hb1⟩
 go_wp2_with fail
 refine (just_expr _ _).mono ?_
 rintro e w2 ⟨rfl,hb2⟩
 go_wp2_with fail
 refine (just_expr _ _).mono ?_
 rintro e w3 ⟨rfl,hb3⟩
 obtain⟨hB0,hB1,hL3⟩:=pre_facts hb1 hb2 hb3
 have HL3:=hid hL3
 have HB1:=hid hB1
 have HB0:=hid hB0
 have hz:=hB1.lt
 clear hB0 hB1 hL3 hb1 hb2 hb3
 go_upto_region 5 with (fail)
 have HB5:=hid (show Blk (((((w3.alloc (.cells #[.int .i64 1,.int .i64 1,.func (.func 69) #[] #[]] 152)).alloc (.cells #[.int .i64 2,.int .i64 2,.func (.func 69) #[] #[]] 152)).alloc (.cells #[.int .i64 3,.int .i64 3,.func (.func 69) #[] #[]] 152)).alloc (.cells #[.int .i64 0,.int .i64 801,.func (.func 69) #[] #[]] 152)).alloc (.cells #[.int .i64 1,.int .i64 801,.func (.func 69) #[] #[]] 152)) (w.heap.size+1) 119 #[.bool false,.int .i64 0,.int .i64 0,.slice none 0 0] from by repeat (first | (with_reducible exact HB1.out) | (with_reducible refine Blk.alloc ?_ _)))
 have HP5:=hid (show Blk (((((w3.alloc (.cells #[.int .i64 1,.int .i64 1,.func (.func 69) #[] #[]] 152)).alloc (.cells #[.int .i64 2,.int .i64 2,.func (.func 69) #[] #[]] 152)).alloc (.cells #[.int .i64 3,.int .i64 3,.func (.func 69) #[] #[]] 152)).alloc (.cells #[.int .i64 0,.int .i64 801,.func (.func 69) #[] #[]] 152)).alloc (.cells #[.int .i64 1,.int .i64 801,.func (.func 69) #[] #[]] 152)) w.heap.size 50 #[.int .u8 33,.string (ofL x),.int .i64 n,.slice Ak nk ck,.int .i64 a] from by repeat (first | (with_reducible exact HB0.out) | (with_reducible refine Blk.alloc ?_ _)))
 have HL5:=hid (show Below w.heap.size w (((((w3.alloc (.cells #[.int .i64 1,.int .i64 1,.func (.func 69) #[] #[]] 152)).alloc (.cells #[.int .i64 2,.int .i64 2,.func (.func 69) #[] #[]] 152)).alloc (.cells #[.int .i64 3,.int .i64 3,.func (.func 69) #[] #[]] 152)).alloc (.cells #[.int .i64 0,.int .i64 801,.func (.func 69) #[] #[]] 152)).alloc (.cells #[.int .i64 1,.int .i64 801,.func (.func 69) #[] #[]] 152)) from by repeat (first | (with_reducible exact HL3.out) | (with_reducible refine bset ?_ ?_) | (with_reducible refine balloc ?_ ?_) | omega | (simp;omega)))
 have hs5:(((((w3.alloc (.cells #[.int .i64 1,.int .i64 1,.func (.func 69) #[] #[]] 152)).alloc (.cells #[.int .i64 2,.int .i64 2,.func (.func 69) #[] #[]] 152)).alloc (.cells #[.int .i64 3,.int .i64 3,.func (.func 69) #[] #[]] 152)).alloc (.cells #[.int .i64 0,.int .i64 801,.func (.func 69) #[] #[]] 152)).alloc (.cells #[.int .i64 1,.int .i64 801,.func (.func 69) #[] #[]] 152)).heap.size=w3.heap.size+1+1+1+1+1:=by simp
 generalize (((((w3.alloc (.cells #[.int .i64 1,.int .i64 1,.func (.func 69) #[] #[]] 152)).alloc (.cells #[.int .i64 2,.int .i64 2,.func (.func 69) #[] #[]] 152)).alloc (.cells #[.int .i64 3,.int .i64 3,.func (.func 69) #[] #[]] 152)).alloc (.cells #[.int .i64 0,.int .i64 801,.func (.func 69) #[] #[]] 152)).alloc (.cells #[.int .i64 1,.int .i64 801,.func (.func 69) #[] #[]] 152))=w5 at HB5 HP5 HL5 hs5 ⊢
 have p0:=HP5.out.cell 0
 have p2:=HP5.out.cell 2
 have hs7:w.heap.size+1 < w5.heap.size:=by omega
 have hs8:w.heap.size < w5.heap.size:=by omega
 have HS5:=hid hs5;clear hs5 hz
 have q0:=HB5.out.cell 0
 have q1:=HB5.out.cell 1
 have q2:=HB5.out.cell 2
 have q3:=HB5.out.cell 3
 have r0:=HB5.out.frozen 0
 have r1:=HB5.out.frozen 1
 have r2:=HB5.out.frozen 2
 have r3:=HB5.out.frozen 3
 go_wp2_with fail
 refine (just_typ _ _).mono ?_
 rintro e w6 ⟨rfl,hb6⟩
 have HB6:=hid (show Blk w6 (w.heap.size+1) 119 #[.bool false,.int .i64 0,.int .i64 0,.slice none 0 0] from Blk.below (by repeat (first | (with_reducible exact HB5.out) | (with_reducible refine Blk.alloc ?_ _))) hb6 (by first | omega | (simp;omega)))
 have HL6:=hid (show Below w.heap.size w w6 from Below.trans (by repeat (first | (with_reducible exact HL5.out) | (with_reducible refine bset ?_ ?_) | (with_reducible refine balloc ?_ ?_) | omega | (simp;omega))) (hb6.mono (by first | omega | (simp;omega))))
 clear hb6
 clear q0 q1 q2 q3 r0 r1 r2 r3
 have q0:=HB6.out.cell 0
 have q1:=HB6.out.cell 1
 have q2:=HB6.out.cell 2
 have q3:=HB6.out.cell 3
 have r0:=HB6.out.frozen 0
 have r1:=HB6.out.frozen 1
 have r2:=HB6.out.frozen 2
 have r3:=HB6.out.frozen 3
 have hs9:=HB6.out.lt
 go_wp2_with fail
 refine bodyPost_ret (v:=.tuple #[.agg #[.bool false,.int .i64 (-9223372036854775808),.int .i64 9223372036854775807,.slice (some ⟨w6.heap.size,0,none⟩) 1 1],.bool true]) (by simp [results,Tryz.f103,go_sem,q0,q1,q2,q3,hs9]) rfl ?_
 refine⟨_,_,_,_,_,_,_,rfl,?_,rfl,rfl,rfl,rfl,rfl,Nat.le_refl _,?_⟩
 ·repeat (first | (with_reducible exact HL6.out) | (with_reducible refine bset ?_ ?_) | (with_reducible refine balloc ?_ ?_) | omega | (simp;omega))
 ·refine PartsIn.one (T:=152) ?_
  exact blk_top (by simp)
end Go.Proofs.YthepmkjggfijoaaGreatDoor
namespace Go.Proofs.YthepmkjggfijoaaGreatDoor
open Go.RowKit Mist
attribute [local go_sem] ofL_extract ofL_size ofL_get ofL_bytes ofL_append
theorem PartsIn.far {w:World} {A:Option Addr} {ps:List Part} (h:PartsIn w A ps) {g i:Nat} {u:Value} (hn:∀ b,A=some ⟨b,0,none⟩→b ≠ g):PartsIn (w.setCell ⟨g,i,none⟩ u) A ps :=
 ⟨fun h0=>by
  obtain⟨b,e,hl,hc⟩:=h.ex h0
  have hne:=hn b e
  refine⟨b,e,by simpa [World.setCell] using hl,fun j p hj=>?_⟩
  have hk:∀ o,(w.setCell ⟨g,i,none⟩ u).cell? ⟨b,o,none⟩=w.cell? ⟨b,o,none⟩:=fun o=>World.cell?_setCell_other _ _ _ _ (fun e2=>hne (congrArg Addr.block e2).symm)
  rw [hk,hk,hk]
  exact hc j p hj⟩
def AskPost (q:Int) (w:World) (e:Ending) (w':World):Prop :=
 ∃ A c,e=.returned (.agg #[.bool false,.int .i64 1,.int .i64 8,.slice A (Mist.asked q).parts.length c])∧(Mist.asked q).parts.length≤c∧PartsIn w' A (Mist.asked q).parts∧(∀ b,A=some ⟨b,0,none⟩→w.heap.size≤b)∧Below w.heap.size w w'
theorem asked_7 (w:World):Calls Tryz.prog 164 #[.int .i64 7] w (AskPost 7 w):=by
 go_enter Tryz.func164,Tryz.ntmps164
 go_wp2_with fail
 refine (just_expr _ _).mono ?_
 rintro e w1 ⟨rfl,hb1⟩
 have HB1:=hid (blk_made hb1)
 have HL1:=hid ((balloc (Below.refl w.heap.size w) (Nat.le_refl _) (o:=.cells #[.bool false,.int .i64 0,.int .i64 0,.slice none 0 0] 119)).trans (hb1.mono (by simp)))
 clear hb1
 have q0:=HB1.out.cell 0
 have q1:=HB1.out.cell 1
 have q2:=HB1.out.cell 2
 have q3:=HB1.out.cell 3
 have r0:=HB1.out.frozen 0
 have r1:=HB1.out.frozen 1
 have r2:=HB1.out.frozen 2
 have r3:=HB1.out.frozen 3
 have hz0:=HB1.out.lt
 have hz1:w.heap.size < w1.heap.size+1:=by omega
 have hz2:w.heap.size < w1.heap.size+1+1:=by omega
 have hz3:w.heap.size < w1.heap.size+1+1+1:=by omega
 go_wp2_with fail
 refine bodyPost_ret (v:=.agg #[.bool false,.int .i64 1,.int .i64 8,.slice none 0 0]) (by simp [results,Tryz.f164,go_sem,q0,q1,q2,q3,hz0,hz1]) rfl ?_
 refine⟨none,0,rfl,Nat.le_refl _,PartsIn.nil _,(fun b h=>nomatch h),?_⟩
 repeat (first | (with_reducible exact HL1.out) | (with_reducible refine bset ?_ ?_) | (with_reducible refine balloc ?_ ?_) | omega | (simp;omega))
theorem asked_8 (w:World):Calls Tryz.prog 164 #[.int .i64 8] w (AskPost 8 w):=by
 have HAP:=hid (show (Mist.asked 8).parts=[⟨1,801,.expr⟩] from rfl)
 go_enter Tryz.func164,Tryz.ntmps164
 go_wp2_with fail
 refine (just_expr _ _).mono ?_
 rintro e w1 ⟨rfl,hb1⟩
 have HB1:=hid (blk_made hb1)
 have HL1:=hid ((balloc (Below.refl w.heap.size w) (Nat.le_refl _) (o:=.cells #[.bool false,.int .i64 0,.int .i64 0,.slice none 0 0] 119)).trans (hb1.mono (by simp)))
 clear hb1
 have q0:=HB1.out.cell 0
 have q1:=HB1.out.cell 1
 have q2:=HB1.out.cell 2
 have q3:=HB1.out.cell 3
 have r0:=HB1.out.frozen 0
 have r1:=HB1.out.frozen 1
 have r2:=HB1.out.frozen 2
 have r3:=HB1.out.frozen 3
 have hz0:=HB1.out.lt
 have hz1:w.heap.size < w1.heap.size+1:=by omega
 have hz2:w.heap.size < w1.heap.size+1+1:=by omega
 have hz3:w.heap.size < w1.heap.size+1+1+1:=by omega
 go_wp2_with fail
 refine bodyPost_ret (v:=.agg #[.bool false,.int .i64 1,.int .i64 8,.slice (some ⟨w1.heap.size+1+1,0,none⟩) 1 1]) (by simp [results,Tryz.f164,go_sem,q0,q1,q2,q3,hz0,hz1,hz2]) rfl ?_
 refine⟨some ⟨w1.heap.size+1+1,0,none⟩,1,by rw [HAP.out];rfl,by rw [HAP.out];exact Nat.le_refl _,?_,?_,?_⟩
 ·rw [HAP.out]
  refine PartsIn.one (T:=152) ?_
  exact blk_top (by simp)
 ·intro b h;injection h with h;injection h with h;omega
 ·repeat (first | (with_reducible exact HL1.out) | (with_reducible refine bset ?_ ?_) | (with_reducible refine balloc ?_ ?_) | omega | (simp;omega))
theorem asked_n (q:Int) (h7:¬ q=7) (h8:¬ q=8) (w:World):Calls Tryz.prog 164 #[.int .i64 q] w (AskPost q w):=by
 have a7:(q == 7)=false:=by simpa using h7
 have a8:(q == 8)=false:=by simpa using h8
 have HAP:=hid (show (Mist.asked q).parts=[⟨1,1,.expr⟩] by simp [Mist.asked,h7,h8])
 go_enter Tryz.func164,Tryz.ntmps164
 go_wp2_with fail
 refine (just_expr _ _).mono ?_
 rintro e w1 ⟨rfl,hb1⟩
 have HB1:=hid (blk_made hb1)
 have HL1:=hid ((balloc (Below.refl w.heap.size w) (Nat.le_refl _) (o:=.cells #[.bool false,.int .i64 0,.int .i64 0,.slice none 0 0] 119)).trans (hb1.mono (by simp)))
 clear hb1
 have q0:=HB1.out.cell 0
 have q1:=HB1.out.cell 1
 have q2:=HB1.out.cell 2
 have q3:=HB1.out.cell 3
 have r0:=HB1.out.frozen 0
 have r1:=HB1.out.frozen 1
 have r2:=HB1.out.frozen 2
 have r3:=HB1.out.frozen 3
 have hz0:=HB1.out.lt
 have hz1:w.heap.size < w1.heap.size+1:=by omega
 have hz2:w.heap.size < w1.heap.size+1+1:=by omega
 have hz3:w.heap.size < w1.heap.size+1+1+1:=by omega
 go_wp2_with fail
 refine bodyPost_ret (v:=.agg #[.bool false,.int .i64 1,.int .i64 8,.slice (some ⟨w1.heap.size,0,none⟩) 1 1]) (by simp [results,Tryz.f164,go_sem,q0,q1,q2,q3,hz0,hz1]) rfl ?_
 refine⟨some ⟨w1.heap.size,0,none⟩,1,by rw [HAP.out];rfl,by rw [HAP.out];exact Nat.le_refl _,?_,?_,?_⟩
 ·rw [HAP.out]
  refine PartsIn.one (T:=152) ?_
  exact Blk.alloc (blk_top (by simp)) _
 ·intro b h;injection h with h;injection h with h;omega
 ·repeat (first | (with_reducible exact HL1.out) | (with_reducible refine bset ?_ ?_) | (with_reducible refine balloc ?_ ?_) | omega | (simp;omega))
theorem asked_any (q:Int) (w:World):Calls Tryz.prog 164 #[.int .i64 q] w (AskPost q w):=by
 by_cases h7:q=7
 ·subst h7;exact asked_7 w
 ·by_cases h8:q=8
  ·subst h8;exact asked_8 w
  ·exact asked_n q h7 h8 w
theorem shape_k46 (x:Bs) (n a:Int) (Ak:Option Addr) (nk ck:Nat) (w:World):Calls Tryz.prog 103 #[.agg #[.int .u8 46,.string (ofL x),.int .i64 n,.slice Ak nk ck,.int .i64 a]] w (ShapePost (Mist.shapeOf 46 n) w):=by
 go_enter Tryz.func103,Tryz.ntmps103
 go_wp2_with fail
 refine (just_expr _ _).mono ?_
 rintro e w1 ⟨rfl,hb1⟩
 go_wp2_with fail
 refine (just_expr _ _).mono ?_
 rintro e w2 ⟨rfl,hb2⟩
 go_wp2_with fail
 refine (just_expr _ _).mono ?_
 rintro e w3 ⟨rfl,hb3⟩
 obtain⟨hB0,hB1,hL3⟩:=pre_facts hb1 hb2 hb3
 have HL3:=hid hL3
 have HB1:=hid hB1
 have HB0:=hid hB0
 have hz:=hB1.lt
 clear hB0 hB1 hL3 hb1 hb2 hb3
 go_upto_region 5 with (fail)
 have HB5:=hid (show Blk (((((w3.alloc (.cells #[.int .i64 1,.int .i64 1,.func (.func 69) #[] #[]] 152)).alloc (.cells #[.int .i64 2,.int .i64 2,.func (.func 69) #[] #[]] 152)).alloc (.cells #[.int .i64 3,.int .i64 3,.func (.func 69) #[] #[]] 152)).alloc (.cells #[.int .i64 0,.int .i64 801,.func (.func 69) #[] #[]] 152)).alloc (.cells #[.int .i64 1,.int .i64 801,.func (.func 69) #[] #[]] 152)) (w.heap.size+1) 119 #[.bool false,.int .i64 0,.int .i64 0,.slice none 0 0] from by repeat (first | (with_reducible exact HB1.out) | (with_reducible refine Blk.alloc ?_ _)))
 have HP5:=hid (show Blk (((((w3.alloc (.cells #[.int .i64 1,.int .i64 1,.func (.func 69) #[] #[]] 152)).alloc (.cells #[.int .i64 2,.int .i64 2,.func (.func 69) #[] #[]] 152)).alloc (.cells #[.int .i64 3,.int .i64 3,.func (.func 69) #[] #[]] 152)).alloc (.cells #[.int .i64 0,.int .i64 801,.func (.func 69) #[] #[]] 152)).alloc (.cells #[.int .i64 1,.int .i64 801,.func (.func 69) #[] #[]] 152)) w.heap.size 50 #[.int .u8 46,.string (ofL x),.int .i64 n,.slice Ak nk ck,.int .i64 a] from by repeat (first | (with_reducible exact HB0.out) | (with_reducible refine Blk.alloc ?_ _)))
 have HL5:=hid (show Below w.heap.size w (((((w3.alloc (.cells #[.int .i64 1,.int .i64 1,.func (.func 69) #[] #[]] 152)).alloc (.cells #[.int .i64 2,.int .i64 2,.func (.func 69) #[] #[]] 152)).alloc (.cells #[.int .i64 3,.int .i64 3,.func (.func 69) #[] #[]] 152)).alloc (.cells #[.int .i64 0,.int .i64 801,.func (.func 69) #[] #[]] 152)).alloc (.cells #[.int .i64 1,.int .i64 801,.func (.func 69) #[] #[]] 152)) from by repeat (first | (with_reducible exact HL3.out) | (with_reducible refine bset ?_ ?_) | (with_reducible refine balloc ?_ ?_) | omega | (simp;omega)))
 have hs5:(((((w3.alloc (.cells #[.int .i64 1,.int .i64 1,.func (.func 69) #[] #[]] 152)).alloc (.cells #[.int .i64 2,.int .i64 2,.func (.func 69) #[] #[]] 152)).alloc (.cells #[.int .i64 3,.int .i64 3,.func (.func 69) #[] #[]] 152)).alloc (.cells #[.int .i64 0,.int .i64 801,.func (.func 69) #[] #[]] 152)).alloc (.cells #[.int .i64 1,.int .i64 801,.func (.func 69) #[] #[]] 152)).heap.size=w3.heap.size+1+1+1+1+1:=by simp
 generalize (((((w3.alloc (.cells #[.int .i64 1,.int .i64 1,.func (.func 69) #[] #[]] 152)).alloc (.cells #[.int .i64 2,.int .i64 2,.func (.func 69) #[] #[]] 152)).alloc (.cells #[.int .i64 3,.int .i64 3,.func (.func 69) #[] #[]] 152)).alloc (.cells #[.int .i64 0,.int .i64 801,.func (.func 69) #[] #[]] 152)).alloc (.cells #[.int .i64 1,.int .i64 801,.func (.func 69) #[] #[]] 152))=w5 at HB5 HP5 HL5 hs5 ⊢
 have p0:=HP5.out.cell 0
 have p2:=HP5.out.cell 2
 have hs7:w.heap.size+1 < w5.heap.size:=by omega
 have hs8:w.heap.size < w5.heap.size:=by omega
 have HS5:=hid hs5;clear hs5 hz
 have q0:=HB5.out.cell 0
 have q1:=HB5.out.cell 1
 have q2:=HB5.out.cell 2
 have q3:=HB5.out.cell 3
 have r0:=HB5.out.frozen 0
 have r1:=HB5.out.frozen 1
 have r2:=HB5.out.frozen 2
 have r3:=HB5.out.frozen 3
 go_wp2_with fail
 refine (asked_any _ _).mono ?_
 rintro e w6 ⟨A4,c4,rfl,hc4,hp4,hn4,hb6⟩
 have HP4:=hid hp4
 have HN4:=hid (show ∀ b,A4=some ⟨b,0,none⟩→b ≠ w.heap.size+1 from fun b h=>by have h9:=hn4 b h;omega)
 clear hp4 hn4
 have HB6:=hid (show Blk w6 (w.heap.size+1) 119 #[.bool false,.int .i64 0,.int .i64 0,.slice none 0 0] from Blk.below (by repeat (first | (with_reducible exact HB5.out) | (with_reducible refine Blk.alloc ?_ _))) hb6 (by first | omega | (simp;omega)))
 have HL6:=hid (show Below w.heap.size w w6 from Below.trans (by repeat (first | (with_reducible exact HL5.out) | (with_reducible refine bset ?_ ?_) | (with_reducible refine balloc ?_ ?_) | omega | (simp;omega))) (hb6.mono (by first | omega | (simp;omega))))
 clear hb6
 clear q0 q1 q2 q3 r0 r1 r2 r3
 have q0:=HB6.out.cell 0
 have q1:=HB6.out.cell 1
 have q2:=HB6.out.cell 2
 have q3:=HB6.out.cell 3
 have r0:=HB6.out.frozen 0
 have r1:=HB6.out.frozen 1
 have r2:=HB6.out.frozen 2
 have r3:=HB6.out.frozen 3
 obtain⟨n4,hn4⟩:∃ n4,n4=(Mist.asked n).parts.length:=⟨_,rfl⟩
 rw [← hn4] at hc4 ⊢
 have HN:=hid hn4;clear hn4
 go_wp2_with fail
 refine bodyPost_ret (v:=.tuple #[.agg #[.bool false,.int .i64 1,.int .i64 8,.slice A4 n4 c4],.bool true]) (by simp [results,Tryz.f103,go_sem,q0,q1,q2,q3]) rfl ?_
 refine⟨_,_,_,A4,_,_,_,rfl,?_,rfl,rfl,rfl,rfl,HN.out,hc4,?_⟩
 ·repeat (first | (with_reducible exact HL6.out) | (with_reducible refine bset ?_ ?_) | (with_reducible refine balloc ?_ ?_) | omega | (simp;omega))
 ·repeat (first | (with_reducible refine PartsIn.far ?_ HN4.out) | exact HP4.out)
end Go.Proofs.YthepmkjggfijoaaGreatDoor
