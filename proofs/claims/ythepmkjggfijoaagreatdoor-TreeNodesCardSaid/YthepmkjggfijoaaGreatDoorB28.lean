/-
  PARTS of the proof: N6J, N7.
-/
import Derived.Deep.Cut
import Derived.Deep.RegionHeld3
import Derived.Deep.RegionWith
import Derived.Test.YthepmkjggfijoaaGreatDoorB22
import Derived.Test.YthepmkjggfijoaaGreatDoorB23
import Derived.Test.YthepmkjggfijoaaGreatDoorB24
import Derived.Test.YthepmkjggfijoaaGreatDoorB25
import Derived.Test.YthepmkjggfijoaaGreatDoorB26
import Derived.Test.YthepmkjggfijoaaGreatDoorB27
set_option linter.all false
set_option maxRecDepth 100000
set_option maxHeartbeats 4000000
open Go.Lib (hid)
namespace Go.Proofs.YthepmkjggfijoaaGreatDoor
open Go.RowKit Mist
attribute [local go_sem] ofL_extract ofL_size ofL_get ofL_bytes ofL_append
theorem shape_k0 (x:Bs) (n a:Int) (Ak:Option Addr) (nk ck:Nat) (w:World):Calls Tryz.prog 103 #[.agg #[.int .u8 0,.string (ofL x),.int .i64 n,.slice Ak nk ck,.int .i64 a]] w (ShapePost (Mist.shapeOf 0 n) w):=by
 have HSH:=hid (show Mist.shapeOf 0 n=none from rfl)
 go_enter Tryz.func103,Tryz.ntmps103
 go_wp2_with fail
 refine (just_expr _ _).mono ?_
 rintro e w1 ⟨rfl,hb1⟩
 go_wp2_with fail
 refine (just_expr _ _).mono ?_
 rintro e w2 ⟨rfl,hb2⟩
 go_wp2_with fail
 refine (just_expr _ _).mono ?_
 rintro e w3 ⟨rfl,hb3⟩
 obtain⟨hB0,hB1,hL3⟩:=pre_facts hb1 hb2 hb3
 have HL3:=hid hL3
 have HB1:=hid hB1
 have HB0:=hid hB0
 have hz:=hB1.lt
 clear hB0 hB1 hL3 hb1 hb2 hb3
 go_upto_region 5 with (fail)
 have HB5:=hid (show Blk (((((w3.alloc (.cells #[.int .i64 1,.int .i64 1,.func (.func 69) #[] #[]] 152)).alloc (.cells #[.int .i64 2,.int .i64 2,.func (.func 69) #[] #[]] 152)).alloc (.cells #[.int .i64 3,.int .i64 3,.func (.func 69) #[] #[]] 152)).alloc (.cells #[.int .i64 0,.int .i64 801,.func (.func 69) #[] #[]] 152)).alloc (.cells #[.int .i64 1,.int .i64 801,.func (.func 69) #[] #[]] 152)) (w.heap.size+1) 119 #[.bool false,.int .i64 0,.int .i64 0,.slice none 0 0] from by repeat (first | (with_reducible exact HB1.out) | (with_reducible refine Blk.alloc ?_ _)))
 have HP5:=hid (show Blk (((((w3.alloc (.cells #[.int .i64 1,.int .i64 1,.func (.func 69) #[] #[]] 152)).alloc (.cells #[.int .i64 2,.int .i64 2,.func (.func 69) #[] #[]] 152)).alloc (.cells #[.int .i64 3,.int .i64 3,.func (.func 69) #[] #[]] 152)).alloc (.cells #[.int .i64 0,.int .i64 801,.func (.func 69) #[] #[]] 152)).alloc (.cells #[.int .i64 1,.int .i64 801,.func (.func 69) #[] #[]] 152)) w.heap.size 50 #[.int .u8 0,.string (ofL x),.int .i64 n,.slice Ak nk ck,.int .i64 a] from by repeat (first | (with_reducible exact HB0.out) | (with_reducible refine Blk.alloc ?_ _)))
 have HL5:=hid (show Below w.heap.size w (((((w3.alloc (.cells #[.int .i64 1,.int .i64 1,.func (.func 69) #[] #[]] 152)).alloc (.cells #[.int .i64 2,.int .i64 2,.func (.func 69) #[] #[]] 152)).alloc (.cells #[.int .i64 3,.int .i64 3,.func (.func 69) #[] #[]] 152)).alloc (.cells #[.int .i64 0,.int .i64 801,.func (.func 69) #[] #[]] 152)).alloc (.cells #[.int .i64 1,.int .i64 801,.func (.func 69) #[] #[]] 152)) from by repeat (first | (with_reducible exact HL3.out) | (with_reducible refine bset ?_ ?_) | (with_reducible refine balloc ?_ ?_) | omega | (simp;omega)))
 have HO5:=hid (show Blk (((((w3.alloc (.cells #[.int .i64 1,.int .i64 1,.func (.func 69) #[] #[]] 152)).alloc (.cells #[.int .i64 2,.int .i64 2,.func (.func 69) #[] #[]] 152)).alloc (.cells #[.int .i64 3,.int .i64 3,.func (.func 69) #[] #[]] 152)).alloc (.cells #[.int .i64 0,.int .i64 801,.func (.func 69) #[] #[]] 152)).alloc (.cells #[.int .i64 1,.int .i64 801,.func (.func 69) #[] #[]] 152)) (w3.heap.size+1) 152 #[.int .i64 2,.int .i64 2,.func (.func 69) #[] #[]] from by repeat (first | (with_reducible exact blk_top (by first | rfl | simp)) | (with_reducible refine Blk.alloc ?_ _)))
 have hs5:(((((w3.alloc (.cells #[.int .i64 1,.int .i64 1,.func (.func 69) #[] #[]] 152)).alloc (.cells #[.int .i64 2,.int .i64 2,.func (.func 69) #[] #[]] 152)).alloc (.cells #[.int .i64 3,.int .i64 3,.func (.func 69) #[] #[]] 152)).alloc (.cells #[.int .i64 0,.int .i64 801,.func (.func 69) #[] #[]] 152)).alloc (.cells #[.int .i64 1,.int .i64 801,.func (.func 69) #[] #[]] 152)).heap.size=w3.heap.size+1+1+1+1+1:=by simp
 generalize (((((w3.alloc (.cells #[.int .i64 1,.int .i64 1,.func (.func 69) #[] #[]] 152)).alloc (.cells #[.int .i64 2,.int .i64 2,.func (.func 69) #[] #[]] 152)).alloc (.cells #[.int .i64 3,.int .i64 3,.func (.func 69) #[] #[]] 152)).alloc (.cells #[.int .i64 0,.int .i64 801,.func (.func 69) #[] #[]] 152)).alloc (.cells #[.int .i64 1,.int .i64 801,.func (.func 69) #[] #[]] 152))=w5 at HB5 HP5 HL5 hs5 HO5 ⊢
 have o0:=HO5.out.cell 0
 have o1:=HO5.out.cell 1
 have o2:=HO5.out.cell 2
 have ho5:=HO5.out.lt
 have p0:=HP5.out.cell 0
 have p2:=HP5.out.cell 2
 have hs7:w.heap.size+1 < w5.heap.size:=by omega
 have hs8:w.heap.size < w5.heap.size:=by omega
 have HS5:=hid hs5;clear hs5 hz
 have q0:=HB5.out.cell 0
 have q1:=HB5.out.cell 1
 have q2:=HB5.out.cell 2
 have q3:=HB5.out.cell 3
 have r0:=HB5.out.frozen 0
 have r1:=HB5.out.frozen 1
 have r2:=HB5.out.frozen 2
 have r3:=HB5.out.frozen 3
 go_wp2_with fail
 have hp5:=HP5.out.lt
 have hne:w.heap.size ≠ w3.heap.size:=fun e=>HB5.out.ne_ HO5.out (by decide) (by rw [e])
 refine wp_region_noPanic ?_
 refine wp_region_held_drew (S:=fun w'=>w'.cell? ⟨w.heap.size,0,none⟩=some (.int .u8 0)∧w'.cell? ⟨w3.heap.size+1,0,none⟩=some (.int .i64 2)∧w'.cell? ⟨w3.heap.size+1,1,none⟩=some (.int .i64 2)∧w'.cell? ⟨w3.heap.size+1,2,none⟩=some (.func (.func 69) #[] #[])) (by kernel_rfl) ⟨p0,o0,o1,o2⟩ (fun hHeld=>?_)
 refine take_nth (i:=0) .z (by kernel_rfl) (by kernel_rfl) (by kernel_rfl) (fun _ _ _ h=>h) (v:=?_) ⟨by rfl,?_⟩ hHeld ?_
 rotate_left
 ·(intro w0 hSw;(try dsimp only at hSw);go_split_ands;go_simp;try with_reducible rfl)
 simp only [Act.put,List.setIfInBounds_toArray,List.set_cons_zero,List.set_cons_succ]
 refine take_nth (i:=1) (.s .z) (by kernel_rfl) (by kernel_rfl) (by kernel_rfl) (fun _ _ _ h=>h) (v:=?_) ⟨by rfl,?_⟩ hHeld ?_
 rotate_left
 ·(intro w0 hSw;(try dsimp only at hSw);go_split_ands;go_simp;try with_reducible rfl)
 simp only [Act.put,List.setIfInBounds_toArray,List.set_cons_zero,List.set_cons_succ]
 refine take_nth (i:=4) (.s (.s (.s (.s .z)))) (by kernel_rfl) (by kernel_rfl) (by kernel_rfl) (fun _ _ _ h=>h) (v:=?_) ⟨by rfl,?_⟩ hHeld ?_
 rotate_left
 ·(intro w0 hSw;(try dsimp only at hSw);go_split_ands;go_simp;try with_reducible rfl)
 simp only [Act.put,List.setIfInBounds_toArray,List.set_cons_zero,List.set_cons_succ]
 refine take_nth (i:=5) (.s (.s (.s (.s (.s .z))))) (by kernel_rfl) (by kernel_rfl) (by kernel_rfl) (fun _ _ _ h=>h) (v:=?_) ⟨by rfl,?_⟩ hHeld ?_
 rotate_left
 ·(intro w0 hSw;(try dsimp only at hSw);go_split_ands;go_simp;try with_reducible rfl)
 simp only [Act.put,List.setIfInBounds_toArray,List.set_cons_zero,List.set_cons_succ]
 refine take_nth (i:=6) (.s (.s (.s (.s (.s (.s .z)))))) (by kernel_rfl) (by kernel_rfl) (by kernel_rfl) (fun _ _ _ h=>h) (v:=?_) ⟨by rfl,?_⟩ hHeld ?_
 rotate_left
 ·(intro w0 hSw;(try dsimp only at hSw);go_split_ands;go_simp;try with_reducible rfl)
 simp only [Act.put,List.setIfInBounds_toArray,List.set_cons_zero,List.set_cons_succ]
 refine wpAnyH_ready (rs:=[2]) (by kernel_rfl) (by simp) ?_
 refine ready_nth (.s (.s .z)) (fun K hK=>?_)
 go_simp
 refine hK.out _ _ ?_ (fun hHeld2=>?_)
 ·(refine⟨?_,?_,?_,?_⟩ <;> go_keep)
 (try simp only [Act.put,List.setIfInBounds_toArray,List.set_cons_zero,List.set_cons_succ])
 refine wpAnyH_ready (rs:=[3]) (by kernel_rfl) (by simp) ?_
 refine ready_nth (.s (.s (.s .z))) (fun K hK=>?_)
 go_simp
 refine (parts_1 _ _ _ _).mono ?_
 rintro e w6 ⟨rfl,hb6⟩
 have HBE:=hid hb6
 have HP6:=hid (show Blk w6 w.heap.size 50 #[.int .u8 0,.string (ofL x),.int .i64 n,.slice Ak nk ck,.int .i64 a] from Blk.below (by repeat (first | (with_reducible exact HP5.out) | (with_reducible refine Blk.alloc ?_ _) | (with_reducible refine Blk.drew ?_))) hb6 (by first | omega | (simp;omega)))
 have HO6:=hid (show Blk w6 (w3.heap.size+1) 152 #[.int .i64 2,.int .i64 2,.func (.func 69) #[] #[]] from Blk.below (by repeat (first | (with_reducible exact HO5.out) | (with_reducible refine Blk.alloc ?_ _) | (with_reducible refine Blk.drew ?_))) hb6 (by first | omega | (simp;omega)))
 have HB6:=hid (show Blk w6 (w.heap.size+1) 119 #[.bool false,.int .i64 0,.int .i64 0,.slice none 0 0] from Blk.below (by repeat (first | (with_reducible exact HB5.out) | (with_reducible refine Blk.alloc ?_ _) | (with_reducible refine Blk.drew ?_))) hb6 (by first | omega | (simp;omega)))
 have HL6:=hid (show Below w.heap.size w w6 from Below.trans (by repeat (first | (with_reducible exact HL5.out) | (with_reducible refine balloc ?_ ?_) | (with_reducible refine Below.drew ?_) | omega | (simp;omega))) (hb6.mono (by first | omega | (simp;omega))))
 clear hb6 p0 p2 q0 q1 q2 q3 r0 r1 r2 r3 o0 o1 o2
 have p0:=HP6.out.cell 0
 have o0:=HO6.out.cell 0
 have o1:=HO6.out.cell 1
 have o2:=HO6.out.cell 2
 have q0:=HB6.out.cell 0
 have q1:=HB6.out.cell 1
 have q2:=HB6.out.cell 2
 have q3:=HB6.out.cell 3
 have r0:=HB6.out.frozen 0
 have r1:=HB6.out.frozen 1
 have r2:=HB6.out.frozen 2
 have r3:=HB6.out.frozen 3
 have hs9:=HB6.out.lt
 clear hHeld hHeld2
 refine hK.out _ _ ⟨p0,o0,o1,o2⟩ (fun hHeld3=>?_)
 (try simp only [Act.put,List.setIfInBounds_toArray,List.set_cons_zero,List.set_cons_succ])
 refine take_nth (i:=7) (.s (.s (.s (.s (.s (.s (.s .z))))))) (by kernel_rfl) (by kernel_rfl) (by kernel_rfl) (fun _ _ _ h=>h) (v:=?_) ⟨by rfl,?_⟩ hHeld3 ?_
 rotate_left
 ·(intro w0 hSw;(try dsimp only at hSw);go_split_ands;go_simp;try with_reducible rfl)
 simp only [Act.put,List.setIfInBounds_toArray,List.set_cons_zero,List.set_cons_succ]
 refine take_no (i:=8) (.s (.s (.s (.s (.s (.s (.s (.s .z)))))))) (by kernel_rfl) (by kernel_rfl) (by kernel_rfl) (fun _ _ _ h=>h) (by rfl) hHeld3 ?_
 simp only [Act.put,List.setIfInBounds_toArray,List.set_cons_zero,List.set_cons_succ]
 refine take_no (i:=9) (.s (.s (.s (.s (.s (.s (.s (.s (.s .z))))))))) (by kernel_rfl) (by kernel_rfl) (by kernel_rfl) (fun _ _ _ h=>h) (by rfl) hHeld3 ?_
 simp only [Act.put,List.setIfInBounds_toArray,List.set_cons_zero,List.set_cons_succ]
 refine take_no (i:=10) (.s (.s (.s (.s (.s (.s (.s (.s (.s (.s .z)))))))))) (by kernel_rfl) (by kernel_rfl) (by kernel_rfl) (fun _ _ _ h=>h) (by rfl) hHeld3 ?_
 simp only [Act.put,List.setIfInBounds_toArray,List.set_cons_zero,List.set_cons_succ]
 refine take_nth (i:=11) (.s (.s (.s (.s (.s (.s (.s (.s (.s (.s (.s .z))))))))))) (by kernel_rfl) (by kernel_rfl) (by kernel_rfl) (fun _ _ _ h=>h) (v:=?_) ⟨by rfl,?_⟩ hHeld3 ?_
 rotate_left
 ·(intro w0 hSw;(try dsimp only at hSw);go_split_ands;go_simp;try with_reducible rfl)
 simp only [Act.put,List.setIfInBounds_toArray,List.set_cons_zero,List.set_cons_succ]
 refine take_nth (i:=12) (.s (.s (.s (.s (.s (.s (.s (.s (.s (.s (.s (.s .z)))))))))))) (by kernel_rfl) (by kernel_rfl) (by kernel_rfl) (fun _ _ _ h=>h) (v:=?_) ⟨by rfl,?_⟩ hHeld3 ?_
 rotate_left
 ·(intro w0 hSw;(try dsimp only at hSw);go_split_ands;go_simp;try with_reducible rfl)
 simp only [Act.put,List.setIfInBounds_toArray,List.set_cons_zero,List.set_cons_succ]
 refine take_nth (i:=13) (.s (.s (.s (.s (.s (.s (.s (.s (.s (.s (.s (.s (.s .z))))))))))))) (by kernel_rfl) (by kernel_rfl) (by kernel_rfl) (fun _ _ _ h=>h) (v:=?_) ⟨by rfl,?_⟩ hHeld3 ?_
 rotate_left
 ·(intro w0 hSw;(try dsimp only at hSw);go_split_ands;go_simp;try with_reducible rfl)
 simp only [Act.put,List.setIfInBounds_toArray,List.set_cons_zero,List.set_cons_succ]
 refine take_nth (i:=14) (.s (.s (.s (.s (.s (.s (.s (.s (.s (.s (.s (.s (.s (.s .z)))))))))))))) (by kernel_rfl) (by kernel_rfl) (by kernel_rfl) (fun _ _ _ h=>h) (v:=?_) ⟨by rfl,?_⟩ hHeld3 ?_
 rotate_left
 ·(intro w0 hSw;(try dsimp only at hSw);go_split_ands;go_simp;try with_reducible rfl)
 simp only [Act.put,List.setIfInBounds_toArray,List.set_cons_zero,List.set_cons_succ]
 refine take_nth (i:=15) (.s (.s (.s (.s (.s (.s (.s (.s (.s (.s (.s (.s (.s (.s (.s .z))))))))))))))) (by kernel_rfl) (by kernel_rfl) (by kernel_rfl) (fun _ _ _ h=>h) (v:=?_) ⟨by rfl,?_⟩ hHeld3 ?_
 rotate_left
 ·(intro w0 hSw;(try dsimp only at hSw);go_split_ands;go_simp;try with_reducible rfl)
 simp only [Act.put,List.setIfInBounds_toArray,List.set_cons_zero,List.set_cons_succ]
 refine take_nth (i:=16) (.s (.s (.s (.s (.s (.s (.s (.s (.s (.s (.s (.s (.s (.s (.s (.s .z)))))))))))))))) (by kernel_rfl) (by kernel_rfl) (by kernel_rfl) (fun _ _ _ h=>h) (v:=?_) ⟨by rfl,?_⟩ hHeld3 ?_
 rotate_left
 ·(intro w0 hSw;(try dsimp only at hSw);go_split_ands;go_simp;try with_reducible rfl)
 simp only [Act.put,List.setIfInBounds_toArray,List.set_cons_zero,List.set_cons_succ]
 refine wpAnyH_ready (rs:=[17]) (by kernel_rfl) (by simp) ?_
 refine ready_nth (.s (.s (.s (.s (.s (.s (.s (.s (.s (.s (.s (.s (.s (.s (.s (.s (.s .z))))))))))))))))) (fun K hK=>?_)
 go_simp
 refine hK.out _ _ ?_ (fun hHeld4=>?_)
 ·(refine⟨?_,?_,?_,?_⟩ <;> go_keep)
 (try simp only [Act.put,List.setIfInBounds_toArray,List.set_cons_zero,List.set_cons_succ])
 refine take_nth (i:=18) (.s (.s (.s (.s (.s (.s (.s (.s (.s (.s (.s (.s (.s (.s (.s (.s (.s (.s .z)))))))))))))))))) (by kernel_rfl) (by kernel_rfl) (by kernel_rfl) (fun _ _ _ h=>h) (v:=?_) ⟨by rfl,?_⟩ hHeld4 ?_
 rotate_left
 ·(intro w0 hSw;(try dsimp only at hSw);go_split_ands;go_simp;try with_reducible rfl)
 simp only [Act.put,List.setIfInBounds_toArray,List.set_cons_zero,List.set_cons_succ]
 refine wpAnyH_done (by kernel_rfl) (NoPanic.normal ?_) _
 go_wp2_with fail
 refine bodyPost_ret (v:=.tuple #[.agg #[.bool false,.int .i64 0,.int .i64 0,.slice (some ⟨w5.heap.size,0,none⟩) 1 1],.bool false]) (by simp [results,Tryz.f103,go_sem,q0,q1,q2,q3]) rfl ?_
 refine⟨_,_,_,_,_,_,_,rfl,?_,?_⟩
 ·repeat (first | (with_reducible exact HL6.out) | (with_reducible refine bset ?_ ?_) | (with_reducible refine balloc ?_ ?_) | (with_reducible refine Below.drew ?_) | omega | (simp;omega))
 ·rw [HSH.out]
end Go.Proofs.YthepmkjggfijoaaGreatDoor
namespace Go.Proofs.YthepmkjggfijoaaGreatDoor
open Go.RowKit Mist
theorem shapeOf_any (k:Nat) (x:Bs) (n a:Int) (Ak:Option Addr) (nk ck:Nat) (w:World):Calls Tryz.prog 103 #[.agg #[.int .u8 k,.string (ofL x),.int .i64 n,.slice Ak nk ck,.int .i64 a]] w (ShapePost (Mist.shapeOf k n) w):=by
 have hcase:k=0∨((27≤k∧k≤29)∨(35≤k∧k≤39)∨47≤k)∨k=1∨k=2∨k=3∨k=32∨k=45∨k=4∨k=5∨(6≤k∧k≤18)∨k=23∨k=19∨k=20∨k=21∨k=22∨k=25∨k=43∨k=44∨k=24∨k=26∨k=30∨k=31∨k=33∨k=34∨k=40∨k=41∨k=42∨k=46:=by omega
 rcases hcase with rfl | h | rfl | rfl | rfl | rfl | rfl | rfl | rfl | h | rfl | rfl | rfl | rfl | rfl | rfl | rfl | rfl | rfl | rfl | rfl | rfl | rfl | rfl | rfl | rfl | rfl | rfl
 ·exact shape_k0 x n a Ak nk ck w
 ·exact shape_none k x n a Ak nk ck w h
 ·exact shape_k1 x n a Ak nk ck w
 ·exact shape_k2 x n a Ak nk ck w
 ·exact shape_k3 x n a Ak nk ck w
 ·exact shape_k32 x n a Ak nk ck w
 ·exact shape_k45 x n a Ak nk ck w
 ·exact shape_k4 x n a Ak nk ck w
 ·exact shape_k5 x n a Ak nk ck w
 ·exact shape_op k x n a Ak nk ck w h
 ·exact shape_k23 x n a Ak nk ck w
 ·exact shape_k19 x n a Ak nk ck w
 ·exact shape_k20 x n a Ak nk ck w
 ·exact shape_k21 x n a Ak nk ck w
 ·exact shape_k22 x n a Ak nk ck w
 ·exact shape_k25 x n a Ak nk ck w
 ·exact shape_k43 x n a Ak nk ck w
 ·exact shape_k44 x n a Ak nk ck w
 ·exact shape_k24 x n a Ak nk ck w
 ·exact shape_k26 x n a Ak nk ck w
 ·exact shape_k30 x n a Ak nk ck w
 ·exact shape_k31 x n a Ak nk ck w
 ·exact shape_k33 x n a Ak nk ck w
 ·exact shape_k34 x n a Ak nk ck w
 ·exact shape_k40 x n a Ak nk ck w
 ·exact shape_k41 x n a Ak nk ck w
 ·exact shape_k42 x n a Ak nk ck w
 ·exact shape_k46 x n a Ak nk ck w
end Go.Proofs.YthepmkjggfijoaaGreatDoor
