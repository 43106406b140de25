/-
  PARTS of the proof: TQexpr, TQput, TQparam.
-/
import Derived.Test.YthepmkjggfijoaaGreatDoorB08
set_option linter.all false
set_option maxRecDepth 100000
set_option maxHeartbeats 4000000
open Go.Lib (hid)
namespace Go.Proofs.YthepmkjggfijoaaGreatDoor
open Go.RowKit Mist
attribute [local go_sem] ofL_extract ofL_size ofL_get ofL_bytes ofL_append
section
variable {g:Nat} {tv:Value} {l:List Tok} {en:Int} {iv:Value} (hF:PF l)
include hF
theorem part_expr (m:Nat) (C:∀ f,f≤m→∀ j,isFn j=true→IC g tv l en iv f j) (CL:∀ f,f≤m→∀ e,LC g tv l en iv f e):IC g tv l en iv (m+1) .expr:=by
 intro w k xs nv r h hk hn hw hr
 have H:=hid h;clear h
 have HA0:=hid (At.refl H.out)
 have HW0:=hid hw;clear hw
 have hn0:(nds xs).length≤k:=by rw [nds_len];exact hn
 have hlen:=hF.len
 rw [run] at hr
 unfold jobFn
 go_enter Tryz.func210,Tryz.ntmps210
 have HR0:=hid hr;clear hr
 go_wp2_with fail
 refine (look_any g tv l en iv _ k _ _ HA0.out.ps (by omega) hlen).mono ?_
 rintro e w1 ⟨rfl,hb1⟩
 have HA1:=hid (HA0.out.below hb1)
 skip
 clear hb1
 have HN1:=hid (Blk.new w1 68 #[.int .u8 (tg l k).kind,.string (ofL (tx l k)),.int .i64 (pl l en k)])
 have HA1001:=hid (HA1.out.alloc (.cells #[.int .u8 (tg l k).kind,.string (ofL (tx l k)),.int .i64 (pl l en k)] 68))
 clear HA1
 rcases if_split HR0.out with ⟨he2,hr2⟩ | ⟨he2,hr2⟩
 ·skip
  have hlt2:=tx_lt he2 (by simp)
  have HE2:=hid he2;clear he2
  have HR2:=hid hr2;clear hr2
  go_wp2_with fail
  refine (has_yes g tv l en iv hF [105,102] (.inl (by decide +kernel)) _ k _ _ HA1001.out.ps (by omega) HE2.out).mono ?_
  rintro e w3 ⟨rfl,p3,m3⟩
  have HB3_0:=hid (m3.blk HN1.out (HA1001.out.ps.tag HN1.out (by decide) (by decide)).1 (HA1001.out.ps.tag HN1.out (by decide) (by decide)).2)
  clear HN1
  have HA3:=hid (HA1001.out.step p3 m3)
  clear HA1001
  clear p3 m3
  rcases thn_split HR2.out with ⟨ks4,k4,ns4,hx4,hr4⟩ | ⟨kb4,hx4,rfl⟩
  rotate_left
  ·have HX4:=hid hx4;clear hx4
   go_wp2_with fail
   refine (C m (Nat.le_refl _) .expr rfl _ (k+1) _ _ _ HA3.out.ps (by omega) (by rw [HA3.out.len];omega) (by rw [HA3.out.ns];exact HW0.out) (by rw [HA3.out.ns];exact HX4.out)).mono ?_
   rintro e w4 ⟨rfl,hb4⟩
   unfold wrongAt
   go_wp2_with fail
   exact⟨rfl,IPost.bad rfl ((H.out.low HA3.out.mv).trans hb4)⟩
  have HX4:=hid hx4;clear hx4
  have HR4:=hid hr4;clear hr4 HR2
  go_wp2_with fail
  refine (C m (Nat.le_refl _) .expr rfl _ (k+1) _ _ _ HA3.out.ps (by omega) (by rw [HA3.out.len];omega) (by rw [HA3.out.ns];exact HW0.out) (by rw [HA3.out.ns];exact HX4.out)).mono ?_
  rintro e w4 ⟨rfl,ext4,nv4,ha4⟩
  have GO4:=hid (run_goes HX4.out (by omega) HW0.out (Ids.nil _) (by simp))
  have gl4:=GO4.out.lo;have gf4:=GO4.out.few;have ge4:=GO4.out.le;have gn4:=GO4.out.len
  simp only [Job.reads] at gl4
  have HB4_0:=hid (ha4.blk HA3.out.ps HB3_0.out (by decide) (by decide))
  clear HB3_0
  have HWF4:=hid GO4.out.wf
  have HA4:=hid (HA3.out.trans ha4)
  clear HA3
  clear ha4
  rcases need_split HR4.out with ⟨he5,hr5⟩ | ⟨he5,rfl⟩
  rotate_left
  ·have HE5:=hid he5;clear he5
   go_wp2_with fail
   refine (need_no g tv l en iv hF [116,104,101,110] (.inl (by decide +kernel)) _ k4 _ _ HA4.out.ps (by omega) HE5.out).mono ?_
   rintro e w5 ⟨rfl,hb5⟩
   unfold wrongAt
   go_wp2_with fail
   exact⟨rfl,IPost.bad rfl ((H.out.low HA4.out.mv).trans (hb5.mono (Nat.le_of_lt HA4.out.ps.lt)))⟩
  have HR5:=hid hr5;clear hr5 HR4
  have hlt5:=tx_lt he5 (by simp)
  have HE5:=hid he5;clear he5
  go_wp2_with fail
  refine (need_yes g tv l en iv hF [116,104,101,110] (.inl (by decide +kernel)) _ k4 _ _ HA4.out.ps (by omega) HE5.out).mono ?_
  rintro e w5 ⟨rfl,p5,m5⟩
  have HB5_0:=hid (m5.blk HB4_0.out (HA4.out.ps.tag HB4_0.out (by decide) (by decide)).1 (HA4.out.ps.tag HB4_0.out (by decide) (by decide)).2)
  clear HB4_0
  have HA5:=hid (HA4.out.step p5 m5)
  clear HA4
  clear p5 m5
  rcases thn_split HR5.out with ⟨ks6,k6,ns6,hx6,hr6⟩ | ⟨kb6,hx6,rfl⟩
  rotate_left
  ·have HX6:=hid hx6;clear hx6
   go_wp2_with fail
   refine (C m (Nat.le_refl _) .expr rfl _ (k4+1) _ _ _ HA5.out.ps (by omega) (by rw [HA5.out.len];omega) (by rw [HA5.out.ns];exact HWF4.out) (by rw [HA5.out.ns];exact HX6.out)).mono ?_
   rintro e w6 ⟨rfl,hb6⟩
   unfold wrongAt
   go_wp2_with fail
   exact⟨rfl,IPost.bad rfl ((H.out.low HA5.out.mv).trans hb6)⟩
  have HX6:=hid hx6;clear hx6
  have HR6:=hid hr6;clear hr6 HR5
  go_wp2_with fail
  refine (C m (Nat.le_refl _) .expr rfl _ (k4+1) _ _ _ HA5.out.ps (by omega) (by rw [HA5.out.len];omega) (by rw [HA5.out.ns];exact HWF4.out) (by rw [HA5.out.ns];exact HX6.out)).mono ?_
  rintro e w6 ⟨rfl,ext6,nv6,ha6⟩
  have GO6:=hid (run_goes HX6.out (by omega) HWF4.out (Ids.nil _) (by simp))
  have gl6:=GO6.out.lo;have gf6:=GO6.out.few;have ge6:=GO6.out.le;have gn6:=GO6.out.len
  simp only [Job.reads] at gl6
  have HB6_0:=hid (ha6.blk HA5.out.ps HB5_0.out (by decide) (by decide))
  clear HB5_0
  have HWF6:=hid GO6.out.wf
  have HA6:=hid (HA5.out.trans ha6)
  clear HA5
  clear ha6
  rcases need_split HR6.out with ⟨he7,hr7⟩ | ⟨he7,rfl⟩
  rotate_left
  ·have HE7:=hid he7;clear he7
   go_wp2_with fail
   refine (need_no g tv l en iv hF [101,108,115,101] (.inl (by decide +kernel)) _ k6 _ _ HA6.out.ps (by omega) HE7.out).mono ?_
   rintro e w7 ⟨rfl,hb7⟩
   unfold wrongAt
   go_wp2_with fail
   exact⟨rfl,IPost.bad rfl ((H.out.low HA6.out.mv).trans (hb7.mono (Nat.le_of_lt HA6.out.ps.lt)))⟩
  have HR7:=hid hr7;clear hr7 HR6
  have hlt7:=tx_lt he7 (by simp)
  have HE7:=hid he7;clear he7
  go_wp2_with fail
  refine (need_yes g tv l en iv hF [101,108,115,101] (.inl (by decide +kernel)) _ k6 _ _ HA6.out.ps (by omega) HE7.out).mono ?_
  rintro e w7 ⟨rfl,p7,m7⟩
  have HB7_0:=hid (m7.blk HB6_0.out (HA6.out.ps.tag HB6_0.out (by decide) (by decide)).1 (HA6.out.ps.tag HB6_0.out (by decide) (by decide)).2)
  clear HB6_0
  have HA7:=hid (HA6.out.step p7 m7)
  clear HA6
  clear p7 m7
  rcases thn_split HR7.out with ⟨ks8,k8,ns8,hx8,hr8⟩ | ⟨kb8,hx8,rfl⟩
  rotate_left
  ·have HX8:=hid hx8;clear hx8
   have sc0_0:=HB7_0.out.cell 0
   have sc0_1:=HB7_0.out.cell 1
   have sc0_2:=HB7_0.out.cell 2
   have sl0:=HB7_0.out.lt
   go_wp2_with fail
   refine wp_region_held_drew (S:=fun w'=>w'.cell? ⟨w1.heap.size,0,none⟩=some (.int .u8 (tg l k).kind)∧w'.cell? ⟨w1.heap.size,1,none⟩=some (.string (ofL (tx l k)))∧w'.cell? ⟨w1.heap.size,2,none⟩=some (.int .i64 (pl l en k))) (by kernel_rfl) ⟨sc0_0,sc0_1,sc0_2⟩ (fun hHeld=>?_)
   refine take_nth (i:=0) .z (by kernel_rfl) (by kernel_rfl) (by kernel_rfl) (fun _ _ _ h=>h) (v:=?_) ⟨by rfl,?_⟩ hHeld ?_
   rotate_left
   ·(intro w0 hSw;(try dsimp only at hSw);go_split_ands;go_simp;try with_reducible rfl)
   simp only [Act.put,List.setIfInBounds_toArray,List.set_cons_zero,List.set_cons_succ]
   refine take_nth (i:=1) (.s .z) (by kernel_rfl) (by kernel_rfl) (by kernel_rfl) (fun _ _ _ h=>h) (v:=?_) ⟨by rfl,?_⟩ hHeld ?_
   rotate_left
   ·(intro w0 hSw;(try dsimp only at hSw);go_split_ands;go_simp;try with_reducible rfl)
   simp only [Act.put,List.setIfInBounds_toArray,List.set_cons_zero,List.set_cons_succ]
   refine take_nth (i:=2) (.s (.s .z)) (by kernel_rfl) (by kernel_rfl) (by kernel_rfl) (fun _ _ _ h=>h) (v:=?_) ⟨by rfl,?_⟩ hHeld ?_
   rotate_left
   ·(intro w0 hSw;(try dsimp only at hSw);go_split_ands;go_simp;try with_reducible rfl)
   simp only [Act.put,List.setIfInBounds_toArray,List.set_cons_zero,List.set_cons_succ]
   refine take_nth (i:=3) (.s (.s (.s .z))) (by kernel_rfl) (by kernel_rfl) (by kernel_rfl) (fun _ _ _ h=>h) (v:=?_) ⟨by rfl,?_⟩ hHeld ?_
   rotate_left
   ·(intro w0 hSw;(try dsimp only at hSw);go_split_ands;go_simp;try with_reducible rfl)
   simp only [Act.put,List.setIfInBounds_toArray,List.set_cons_zero,List.set_cons_succ]
   refine take_nth (i:=4) (.s (.s (.s (.s .z)))) (by kernel_rfl) (by kernel_rfl) (by kernel_rfl) (fun _ _ _ h=>h) (v:=?_) ⟨by rfl,?_⟩ hHeld ?_
   rotate_left
   ·(intro w0 hSw;(try dsimp only at hSw);go_split_ands;go_simp;try with_reducible rfl)
   simp only [Act.put,List.setIfInBounds_toArray,List.set_cons_zero,List.set_cons_succ]
   refine wpAnyH_ready (rs:=[5]) (by kernel_rfl) (by simp) ?_
   refine ready_nth (.s (.s (.s (.s (.s .z))))) (fun K hK=>?_)
   go_simp
   refine (C m (Nat.le_refl _) .expr rfl _ (k6+1) _ _ _ HA7.out.ps.drew (by omega) (by rw [HA7.out.len];omega) (by rw [HA7.out.ns];exact HWF6.out) (by rw [HA7.out.ns];exact HX8.out)).mono ?_
   rintro e w8 ⟨rfl,hb8⟩
   unfold wrongAt
   go_wp2_with fail
   exact⟨rfl,IPost.bad rfl ((Below.drew (H.out.low HA7.out.mv)).trans hb8)⟩
  have HX8:=hid hx8;clear hx8
  have HR8:=hid hr8;clear hr8 HR7
  have GO8:=hid (run_goes HX8.out (by omega) HWF6.out (Ids.nil _) (by simp))
  have gl8:=GO8.out.lo;have gf8:=GO8.out.few;have ge8:=GO8.out.le;have gn8:=GO8.out.len
  simp only [Job.reads] at gl8
  have sc0_0:=HB7_0.out.cell 0
  have sc0_1:=HB7_0.out.cell 1
  have sc0_2:=HB7_0.out.cell 2
  have sl0:=HB7_0.out.lt
  go_wp2_with fail
  go_region_held3 (fun w'=>w'.cell? ⟨w1.heap.size,0,none⟩=some (.int .u8 (tg l k).kind)∧w'.cell? ⟨w1.heap.size,1,none⟩=some (.string (ofL (tx l k)))∧w'.cell? ⟨w1.heap.size,2,none⟩=some (.int .i64 (pl l en k)))
   (first | go_keep | (go_split_ands;refine⟨?_,?_,?_⟩ <;> assumption))
   (first
    | (go_at_call 210;refine (C m (Nat.le_refl _) .expr rfl _ (k6+1) _ _ _ HA7.out.ps.drew (by omega) (by rw [HA7.out.len];omega) (by rw [HA7.out.ns];exact HWF6.out) (by rw [HA7.out.ns];exact HX8.out)).mono ?_;rintro e w8 ⟨rfl,ext8,nv8,ha8⟩;have HA8:=hid (HA7.out.drew.trans ha8);have bx8_0:=ha8.blk HA7.out.ps.drew HB7_0.out.drew (by decide) (by decide);have dc0_0:=bx8_0.cell 0;have dc0_1:=bx8_0.cell 1;have dc0_2:=bx8_0.cell 2;have dl0:=bx8_0.lt;have HY8_0:=hid bx8_0;clear bx8_0;have hz8:=HA8.out.mv.size;clear ha8)
    | (go_at_call 204;refine (add_at g tv l en iv ns8.length 19 _ _ _ [] 0 _ [hd ks4,hd ks6,hd ks8] _ k8 _ _ (HA8.out.ps.alloc _) (kid_three w8 (hd ks4) (hd ks6) (hd ks8)) HA8.out.len (by omega)).mono ?_;rintro e w9 ⟨rfl,nv9,p9,m9⟩;have by8_0:=m9.blk (HY8_0.out.alloc _) (HA8.out.ps.tag HY8_0.out (by decide) (by decide)).1 (HA8.out.ps.tag HY8_0.out (by decide) (by decide)).2;have ec0_0:=by8_0.cell 0;have ec0_1:=by8_0.cell 1;have ec0_2:=by8_0.cell 2;clear by8_0;have HA9:=hid ((At.alloc HA8.out _).add p9 m9 (by intro b hb;simp [Value.ownBlock] at hb;omega));clear p9 m9))
  all_goals
   obtain rfl:=add_split HR8.out
   go_wp2_with fail
   go_ret
   exact IPost.ok rfl HA9.out
 ·skip
  have HE2:=hid he2;clear he2
  have HR2:=hid hr2;clear hr2
  go_wp2_with fail
  refine (has_no g tv l en iv hF [105,102] (.inl (by decide +kernel)) _ k _ _ HA1001.out.ps (by omega) HE2.out).mono ?_
  rintro e w10 ⟨rfl,hb10⟩
  have HB10_0:=hid (HN1.out.below hb10 HN1.out.lt)
  clear HN1
  have HA10:=hid (HA1001.out.below hb10)
  clear HA1001
  clear hb10
  rcases if_split HR2.out with ⟨he11,hr11⟩ | ⟨he11,hr11⟩
  ·skip
   have hlt11:=tx_lt he11 (by simp)
   have HE11:=hid he11;clear he11
   have HR11:=hid hr11;clear hr11
   go_wp2_with fail
   refine (has_yes g tv l en iv hF [108,101,116] (.inl (by decide +kernel)) _ k _ _ HA10.out.ps (by omega) HE11.out).mono ?_
   rintro e w12 ⟨rfl,p12,m12⟩
   have HB12_0:=hid (m12.blk HB10_0.out (HA10.out.ps.tag HB10_0.out (by decide) (by decide)).1 (HA10.out.ps.tag HB10_0.out (by decide) (by decide)).2)
   clear HB10_0
   have HA12:=hid (HA10.out.step p12 m12)
   clear HA10
   clear p12 m12
   rcases needK_split HR11.out with ⟨he13,hr13⟩ | ⟨he13,rfl⟩
   rotate_left
   ·have HE13:=hid he13;clear he13
    go_wp2_with fail
    refine (name_no g tv l en iv hF _ (k+1) _ _ HA12.out.ps (by omega) HE13.out).mono ?_
    rintro e w13 ⟨rfl,hb13⟩
    unfold wrongAt
    go_wp2_with fail
    exact⟨rfl,IPost.bad rfl ((H.out.low HA12.out.mv).trans (hb13.mono (Nat.le_of_lt HA12.out.ps.lt)))⟩
   have HR13:=hid hr13;clear hr13 HR11
   have hlt13:=kd_lt he13 (by simp)
   have HE13:=hid he13;clear he13
   go_wp2_with fail
   refine (name_yes g tv l en iv hF _ (k+1) _ _ HA12.out.ps (by omega) HE13.out).mono ?_
   rintro e w13 ⟨rfl,p13,m13⟩
   have HB13_0:=hid (m13.blk HB12_0.out (HA12.out.ps.tag HB12_0.out (by decide) (by decide)).1 (HA12.out.ps.tag HB12_0.out (by decide) (by decide)).2)
   clear HB12_0
   have HA13:=hid (HA12.out.step p13 m13)
   clear HA12
   clear p13 m13
   unfold TokAt
   have HB1013_0:=hid (HB13_0.out.alloc (.cells #[.int .u8 (tg l (k+1)).kind,.string (ofL (tx l (k+1))),.int .i64 (pl l en (k+1))] 68))
   clear HB13_0
   have HN13:=hid (Blk.new w13 68 #[.int .u8 (tg l (k+1)).kind,.string (ofL (tx l (k+1))),.int .i64 (pl l en (k+1))])
   have HA1013:=hid (HA13.out.alloc (.cells #[.int .u8 (tg l (k+1)).kind,.string (ofL (tx l (k+1))),.int .i64 (pl l en (k+1))] 68))
   clear HA13
   rcases need_split HR13.out with ⟨he14,hr14⟩ | ⟨he14,rfl⟩
   rotate_left
   ·have HE14:=hid he14;clear he14
    go_wp2_with fail
    refine (need_no g tv l en iv hF [61] (.inr (by decide +kernel)) _ ((k+1)+1) _ _ HA1013.out.ps (by omega) HE14.out).mono ?_
    rintro e w14 ⟨rfl,hb14⟩
    unfold wrongAt
    go_wp2_with fail
    exact⟨rfl,IPost.bad rfl ((H.out.low HA1013.out.mv).trans (hb14.mono (Nat.le_of_lt HA1013.out.ps.lt)))⟩
   have HR14:=hid hr14;clear hr14 HR13
   have hlt14:=tx_lt he14 (by simp)
   have HE14:=hid he14;clear he14
   go_wp2_with fail
   refine (need_yes g tv l en iv hF [61] (.inr (by decide +kernel)) _ ((k+1)+1) _ _ HA1013.out.ps (by omega) HE14.out).mono ?_
   rintro e w14 ⟨rfl,p14,m14⟩
   have HB14_0:=hid (m14.blk HB1013_0.out (HA1013.out.ps.tag HB1013_0.out (by decide) (by decide)).1 (HA1013.out.ps.tag HB1013_0.out (by decide) (by decide)).2)
   have HB14_1:=hid (m14.blk HN13.out (HA1013.out.ps.tag HN13.out (by decide) (by decide)).1 (HA1013.out.ps.tag HN13.out (by decide) (by decide)).2)
   clear HB1013_0 HN13
   have HA14:=hid (HA1013.out.step p14 m14)
   clear HA1013
   clear p14 m14
   rcases thn_split HR14.out with ⟨ks15,k15,ns15,hx15,hr15⟩ | ⟨kb15,hx15,rfl⟩
   rotate_left
   ·have HX15:=hid hx15;clear hx15
    go_wp2_with fail
    refine (C m (Nat.le_refl _) .expr rfl _ (((k+1)+1)+1) _ _ _ HA14.out.ps (by omega) (by rw [HA14.out.len];omega) (by rw [HA14.out.ns];exact HW0.out) (by rw [HA14.out.ns];exact HX15.out)).mono ?_
    rintro e w15 ⟨rfl,hb15⟩
    unfold wrongAt
    go_wp2_with fail
    exact⟨rfl,IPost.bad rfl ((H.out.low HA14.out.mv).trans hb15)⟩
   have HX15:=hid hx15;clear hx15
   have HR15:=hid hr15;clear hr15 HR14
   go_wp2_with fail
   refine (C m (Nat.le_refl _) .expr rfl _ (((k+1)+1)+1) _ _ _ HA14.out.ps (by omega) (by rw [HA14.out.len];omega) (by rw [HA14.out.ns];exact HW0.out) (by rw [HA14.out.ns];exact HX15.out)).mono ?_
   rintro e w15 ⟨rfl,ext15,nv15,ha15⟩
   have GO15:=hid (run_goes HX15.out (by omega) HW0.out (Ids.nil _) (by simp))
   have gl15:=GO15.out.lo;have gf15:=GO15.out.few;have ge15:=GO15.out.le;have gn15:=GO15.out.len
   simp only [Job.reads] at gl15
   have HB15_0:=hid (ha15.blk HA14.out.ps HB14_0.out (by decide) (by decide))
   have HB15_1:=hid (ha15.blk HA14.out.ps HB14_1.out (by decide) (by decide))
   clear HB14_0 HB14_1
   have HWF15:=hid GO15.out.wf
   have HA15:=hid (HA14.out.trans ha15)
   clear HA14
   clear ha15
   rcases need_split HR15.out with ⟨he16,hr16⟩ | ⟨he16,rfl⟩
   rotate_left
   ·have HE16:=hid he16;clear he16
    go_wp2_with fail
    refine (need_no g tv l en iv hF [105,110] (.inl (by decide +kernel)) _ k15 _ _ HA15.out.ps (by omega) HE16.out).mono ?_
    rintro e w16 ⟨rfl,hb16⟩
    unfold wrongAt
    go_wp2_with fail
    exact⟨rfl,IPost.bad rfl ((H.out.low HA15.out.mv).trans (hb16.mono (Nat.le_of_lt HA15.out.ps.lt)))⟩
   have HR16:=hid hr16;clear hr16 HR15
   have hlt16:=tx_lt he16 (by simp)
   have HE16:=hid he16;clear he16
   go_wp2_with fail
   refine (need_yes g tv l en iv hF [105,110] (.inl (by decide +kernel)) _ k15 _ _ HA15.out.ps (by omega) HE16.out).mono ?_
   rintro e w16 ⟨rfl,p16,m16⟩
   have HB16_0:=hid (m16.blk HB15_0.out (HA15.out.ps.tag HB15_0.out (by decide) (by decide)).1 (HA15.out.ps.tag HB15_0.out (by decide) (by decide)).2)
   have HB16_1:=hid (m16.blk HB15_1.out (HA15.out.ps.tag HB15_1.out (by decide) (by decide)).1 (HA15.out.ps.tag HB15_1.out (by decide) (by decide)).2)
   clear HB15_0 HB15_1
   have HA16:=hid (HA15.out.step p16 m16)
   clear HA15
   clear p16 m16
   rcases thn_split HR16.out with ⟨ks17,k17,ns17,hx17,hr17⟩ | ⟨kb17,hx17,rfl⟩
   rotate_left
   ·have HX17:=hid hx17;clear hx17
    have sc0_0:=HB16_0.out.cell 0
    have sc0_1:=HB16_0.out.cell 1
    have sc0_2:=HB16_0.out.cell 2
    have sl0:=HB16_0.out.lt
    have sc1_1:=HB16_1.out.cell 1
    have sl1:=HB16_1.out.lt
    go_wp2_with fail
    refine wp_region_held_drew (S:=fun w'=>w'.cell? ⟨w1.heap.size,0,none⟩=some (.int .u8 (tg l k).kind)∧w'.cell? ⟨w1.heap.size,1,none⟩=some (.string (ofL (tx l k)))∧w'.cell? ⟨w1.heap.size,2,none⟩=some (.int .i64 (pl l en k))∧w'.cell? ⟨w13.heap.size,1,none⟩=some (.string (ofL (tx l (k+1))))) (by kernel_rfl) ⟨sc0_0,sc0_1,sc0_2,sc1_1⟩ (fun hHeld=>?_)
    refine take_nth (i:=0) .z (by kernel_rfl) (by kernel_rfl) (by kernel_rfl) (fun _ _ _ h=>h) (v:=?_) ⟨by rfl,?_⟩ hHeld ?_
    rotate_left
    ·(intro w0 hSw;(try dsimp only at hSw);go_split_ands;go_simp;try with_reducible rfl)
    simp only [Act.put,List.setIfInBounds_toArray,List.set_cons_zero,List.set_cons_succ]
    refine take_nth (i:=1) (.s .z) (by kernel_rfl) (by kernel_rfl) (by kernel_rfl) (fun _ _ _ h=>h) (v:=?_) ⟨by rfl,?_⟩ hHeld ?_
    rotate_left
    ·(intro w0 hSw;(try dsimp only at hSw);go_split_ands;go_simp;try with_reducible rfl)
    simp only [Act.put,List.setIfInBounds_toArray,List.set_cons_zero,List.set_cons_succ]
    refine take_nth (i:=2) (.s (.s .z)) (by kernel_rfl) (by kernel_rfl) (by kernel_rfl) (fun _ _ _ h=>h) (v:=?_) ⟨by rfl,?_⟩ hHeld ?_
    rotate_left
    ·(intro w0 hSw;(try dsimp only at hSw);go_split_ands;go_simp;try with_reducible rfl)
    simp only [Act.put,List.setIfInBounds_toArray,List.set_cons_zero,List.set_cons_succ]
    refine take_nth (i:=3) (.s (.s (.s .z))) (by kernel_rfl) (by kernel_rfl) (by kernel_rfl) (fun _ _ _ h=>h) (v:=?_) ⟨by rfl,?_⟩ hHeld ?_
    rotate_left
    ·(intro w0 hSw;(try dsimp only at hSw);go_split_ands;go_simp;try with_reducible rfl)
    simp only [Act.put,List.setIfInBounds_toArray,List.set_cons_zero,List.set_cons_succ]
    refine take_nth (i:=4) (.s (.s (.s (.s .z)))) (by kernel_rfl) (by kernel_rfl) (by kernel_rfl) (fun _ _ _ h=>h) (v:=?_) ⟨by rfl,?_⟩ hHeld ?_
    rotate_left
    ·(intro w0 hSw;(try dsimp only at hSw);go_split_ands;go_simp;try with_reducible rfl)
    simp only [Act.put,List.setIfInBounds_toArray,List.set_cons_zero,List.set_cons_succ]
    refine take_nth (i:=5) (.s (.s (.s (.s (.s .z))))) (by kernel_rfl) (by kernel_rfl) (by kernel_rfl) (fun _ _ _ h=>h) (v:=?_) ⟨by rfl,?_⟩ hHeld ?_
    rotate_left
    ·(intro w0 hSw;(try dsimp only at hSw);go_split_ands;go_simp;try with_reducible rfl)
    simp only [Act.put,List.setIfInBounds_toArray,List.set_cons_zero,List.set_cons_succ]
    refine wpAnyH_ready (rs:=[6]) (by kernel_rfl) (by simp) ?_
    refine ready_nth (.s (.s (.s (.s (.s (.s .z)))))) (fun K hK=>?_)
    go_simp
    refine (C m (Nat.le_refl _) .expr rfl _ (k15+1) _ _ _ HA16.out.ps.drew (by omega) (by rw [HA16.out.len];omega) (by rw [HA16.out.ns];exact HWF15.out) (by rw [HA16.out.ns];exact HX17.out)).mono ?_
    rintro e w17 ⟨rfl,hb17⟩
    unfold wrongAt
    go_wp2_with fail
    exact⟨rfl,IPost.bad rfl ((Below.drew (H.out.low HA16.out.mv)).trans hb17)⟩
   have HX17:=hid hx17;clear hx17
   have HR17:=hid hr17;clear hr17 HR16
   have GO17:=hid (run_goes HX17.out (by omega) HWF15.out (Ids.nil _) (by simp))
   have gl17:=GO17.out.lo;have gf17:=GO17.out.few;have ge17:=GO17.out.le;have gn17:=GO17.out.len
   simp only [Job.reads] at gl17
   have sc0_0:=HB16_0.out.cell 0
   have sc0_1:=HB16_0.out.cell 1
   have sc0_2:=HB16_0.out.cell 2
   have sl0:=HB16_0.out.lt
   have sc1_1:=HB16_1.out.cell 1
   have sl1:=HB16_1.out.lt
   go_wp2_with fail
   go_region_held3 (fun w'=>w'.cell? ⟨w1.heap.size,0,none⟩=some (.int .u8 (tg l k).kind)∧w'.cell? ⟨w1.heap.size,1,none⟩=some (.string (ofL (tx l k)))∧w'.cell? ⟨w1.heap.size,2,none⟩=some (.int .i64 (pl l en k))∧w'.cell? ⟨w13.heap.size,1,none⟩=some (.string (ofL (tx l (k+1)))))
    (first | go_keep | (go_split_ands;refine⟨?_,?_,?_,?_⟩ <;> assumption))
    (first
     | (go_at_call 210;refine (C m (Nat.le_refl _) .expr rfl _ (k15+1) _ _ _ HA16.out.ps.drew (by omega) (by rw [HA16.out.len];omega) (by rw [HA16.out.ns];exact HWF15.out) (by rw [HA16.out.ns];exact HX17.out)).mono ?_;rintro e w17 ⟨rfl,ext17,nv17,ha17⟩;have HA17:=hid (HA16.out.drew.trans ha17);have bx17_0:=ha17.blk HA16.out.ps.drew HB16_0.out.drew (by decide) (by decide);have dc0_0:=bx17_0.cell 0;have dc0_1:=bx17_0.cell 1;have dc0_2:=bx17_0.cell 2;have dl0:=bx17_0.lt;have HY17_0:=hid bx17_0;clear bx17_0;have bx17_1:=ha17.blk HA16.out.ps.drew HB16_1.out.drew (by decide) (by decide);have dc1_1:=bx17_1.cell 1;have dl1:=bx17_1.lt;have HY17_1:=hid bx17_1;clear bx17_1;have hz17:=HA17.out.mv.size;clear ha17)
     | (go_at_call 204;refine (add_at g tv l en iv ns17.length 20 _ _ _ (tx l (k+1)) 0 _ [hd ks15,hd ks17] _ k17 _ _ (HA17.out.ps.alloc _) (kid_two w17 (hd ks15) (hd ks17)) HA17.out.len (by omega)).mono ?_;rintro e w18 ⟨rfl,nv18,p18,m18⟩;have by17_0:=m18.blk (HY17_0.out.alloc _) (HA17.out.ps.tag HY17_0.out (by decide) (by decide)).1 (HA17.out.ps.tag HY17_0.out (by decide) (by decide)).2;have ec0_0:=by17_0.cell 0;have ec0_1:=by17_0.cell 1;have ec0_2:=by17_0.cell 2;clear by17_0;have by17_1:=m18.blk (HY17_1.out.alloc _) (HA17.out.ps.tag HY17_1.out (by decide) (by decide)).1 (HA17.out.ps.tag HY17_1.out (by decide) (by decide)).2;have ec1_1:=by17_1.cell 1;clear by17_1;have HA18:=hid ((At.alloc HA17.out _).add p18 m18 (by intro b hb;simp [Value.ownBlock] at hb;omega));clear p18 m18))
   all_goals
    obtain rfl:=add_split HR17.out
    go_wp2_with fail
    go_ret
    exact IPost.ok rfl HA18.out
  ·skip
   have HE11:=hid he11;clear he11
   have HR11:=hid hr11;clear hr11
   go_wp2_with fail
   refine (has_no g tv l en iv hF [108,101,116] (.inl (by decide +kernel)) _ k _ _ HA10.out.ps (by omega) HE11.out).mono ?_
   rintro e w19 ⟨rfl,hb19⟩
   have HB19_0:=hid (HB10_0.out.below hb19 HB10_0.out.lt)
   clear HB10_0
   have HA19:=hid (HA10.out.below hb19)
   clear HA10
   clear hb19
   have HX:=hid HR11.out
   go_wp2_with fail
   have HQ:=hid (C m (Nat.le_refl _) (.lv .or) rfl _ k _ _ r HA19.out.ps (by omega) (by rw [HA19.out.len];omega) (by rw [HA19.out.ns];exact HW0.out) (by rw [HA19.out.ns];exact HX.out))
   cases r with
   | bad kb =>
    refine HQ.out.mono ?_
    rintro e wq ⟨rfl,hbq⟩
    unfold wrongAt
    go_wp2_with fail
    exact⟨rfl,IPost.bad rfl ((H.out.low HA19.out.mv).trans hbq)⟩
   | ok ksq kq nsq =>
    refine HQ.out.mono ?_
    rintro e wq ⟨rfl,extq,nvq,haq⟩
    have HAQ:=hid (HA19.out.trans haq);clear haq
    go_wp2_with fail
    go_ret
    exact IPost.ok rfl HAQ.out
end
end Go.Proofs.YthepmkjggfijoaaGreatDoor
namespace Go.Proofs.YthepmkjggfijoaaGreatDoor
open Go.RowKit Mist
attribute [local go_sem] ofL_extract ofL_size ofL_get ofL_bytes ofL_append
section
variable {g:Nat} {tv:Value} {l:List Tok} {en:Int} {iv:Value} (hF:PF l)
include hF
theorem part_put (m:Nat) (C:∀ f,f≤m→∀ j,isFn j=true→IC g tv l en iv f j) (CL:∀ f,f≤m→∀ e,LC g tv l en iv f e):IC g tv l en iv (m+1) .put:=by
 intro w k xs nv r h hk hn hw hr
 have H:=hid h;clear h
 have HA0:=hid (At.refl H.out)
 have HW0:=hid hw;clear hw
 have hn0:(nds xs).length≤k:=by rw [nds_len];exact hn
 have hlen:=hF.len
 rw [run] at hr
 unfold jobFn
 go_enter Tryz.func260,Tryz.ntmps260
 have HR0:=hid hr;clear hr
 rcases needK_split HR0.out with ⟨he1,hr1⟩ | ⟨he1,rfl⟩
 rotate_left
 ·have HE1:=hid he1;clear he1
  go_wp2_with fail
  refine (name_no g tv l en iv hF _ k _ _ HA0.out.ps (by omega) HE1.out).mono ?_
  rintro e w1 ⟨rfl,hb1⟩
  unfold wrongAt
  go_wp2_with fail
  exact⟨rfl,IPost.bad rfl ((H.out.low HA0.out.mv).trans (hb1.mono (Nat.le_of_lt HA0.out.ps.lt)))⟩
 have HR1:=hid hr1;clear hr1 HR0
 have hlt1:=kd_lt he1 (by simp)
 have HE1:=hid he1;clear he1
 go_wp2_with fail
 refine (name_yes g tv l en iv hF _ k _ _ HA0.out.ps (by omega) HE1.out).mono ?_
 rintro e w1 ⟨rfl,p1,m1⟩
 have HA1:=hid (HA0.out.step p1 m1)
 skip
 clear p1 m1
 unfold TokAt
 have HN1:=hid (Blk.new w1 68 #[.int .u8 (tg l k).kind,.string (ofL (tx l k)),.int .i64 (pl l en k)])
 have HA1001:=hid (HA1.out.alloc (.cells #[.int .u8 (tg l k).kind,.string (ofL (tx l k)),.int .i64 (pl l en k)] 68))
 clear HA1
 rcases need_split HR1.out with ⟨he2,hr2⟩ | ⟨he2,rfl⟩
 rotate_left
 ·have HE2:=hid he2;clear he2
  go_wp2_with fail
  refine (need_no g tv l en iv hF [58] (.inr (by decide +kernel)) _ (k+1) _ _ HA1001.out.ps (by omega) HE2.out).mono ?_
  rintro e w2 ⟨rfl,hb2⟩
  unfold wrongAt
  go_wp2_with fail
  exact⟨rfl,IPost.bad rfl ((H.out.low HA1001.out.mv).trans (hb2.mono (Nat.le_of_lt HA1001.out.ps.lt)))⟩
 have HR2:=hid hr2;clear hr2 HR1
 have hlt2:=tx_lt he2 (by simp)
 have HE2:=hid he2;clear he2
 go_wp2_with fail
 refine (need_yes g tv l en iv hF [58] (.inr (by decide +kernel)) _ (k+1) _ _ HA1001.out.ps (by omega) HE2.out).mono ?_
 rintro e w2 ⟨rfl,p2,m2⟩
 have HB2_0:=hid (m2.blk HN1.out (HA1001.out.ps.tag HN1.out (by decide) (by decide)).1 (HA1001.out.ps.tag HN1.out (by decide) (by decide)).2)
 clear HN1
 have HA2:=hid (HA1001.out.step p2 m2)
 clear HA1001
 clear p2 m2
 rcases thn_split HR2.out with ⟨ks3,k3,ns3,hx3,hr3⟩ | ⟨kb3,hx3,rfl⟩
 rotate_left
 ·have HX3:=hid hx3;clear hx3
  have sc0_0:=HB2_0.out.cell 0
  have sc0_1:=HB2_0.out.cell 1
  have sc0_2:=HB2_0.out.cell 2
  have sl0:=HB2_0.out.lt
  go_wp2_with fail
  refine wp_region_held_drew (S:=fun w'=>w'.cell? ⟨w1.heap.size,0,none⟩=some (.int .u8 (tg l k).kind)∧w'.cell? ⟨w1.heap.size,1,none⟩=some (.string (ofL (tx l k)))∧w'.cell? ⟨w1.heap.size,2,none⟩=some (.int .i64 (pl l en k))) (by kernel_rfl) ⟨sc0_0,sc0_1,sc0_2⟩ (fun hHeld=>?_)
  refine take_nth (i:=0) .z (by kernel_rfl) (by kernel_rfl) (by kernel_rfl) (fun _ _ _ h=>h) (v:=?_) ⟨by rfl,?_⟩ hHeld ?_
  rotate_left
  ·(intro w0 hSw;(try dsimp only at hSw);go_split_ands;go_simp;try with_reducible rfl)
  simp only [Act.put,List.setIfInBounds_toArray,List.set_cons_zero,List.set_cons_succ]
  refine take_nth (i:=1) (.s .z) (by kernel_rfl) (by kernel_rfl) (by kernel_rfl) (fun _ _ _ h=>h) (v:=?_) ⟨by rfl,?_⟩ hHeld ?_
  rotate_left
  ·(intro w0 hSw;(try dsimp only at hSw);go_split_ands;go_simp;try with_reducible rfl)
  simp only [Act.put,List.setIfInBounds_toArray,List.set_cons_zero,List.set_cons_succ]
  refine take_nth (i:=2) (.s (.s .z)) (by kernel_rfl) (by kernel_rfl) (by kernel_rfl) (fun _ _ _ h=>h) (v:=?_) ⟨by rfl,?_⟩ hHeld ?_
  rotate_left
  ·(intro w0 hSw;(try dsimp only at hSw);go_split_ands;go_simp;try with_reducible rfl)
  simp only [Act.put,List.setIfInBounds_toArray,List.set_cons_zero,List.set_cons_succ]
  refine take_nth (i:=3) (.s (.s (.s .z))) (by kernel_rfl) (by kernel_rfl) (by kernel_rfl) (fun _ _ _ h=>h) (v:=?_) ⟨by rfl,?_⟩ hHeld ?_
  rotate_left
  ·(intro w0 hSw;(try dsimp only at hSw);go_split_ands;go_simp;try with_reducible rfl)
  simp only [Act.put,List.setIfInBounds_toArray,List.set_cons_zero,List.set_cons_succ]
  refine take_nth (i:=4) (.s (.s (.s (.s .z)))) (by kernel_rfl) (by kernel_rfl) (by kernel_rfl) (fun _ _ _ h=>h) (v:=?_) ⟨by rfl,?_⟩ hHeld ?_
  rotate_left
  ·(intro w0 hSw;(try dsimp only at hSw);go_split_ands;go_simp;try with_reducible rfl)
  simp only [Act.put,List.setIfInBounds_toArray,List.set_cons_zero,List.set_cons_succ]
  refine wpAnyH_ready (rs:=[5]) (by kernel_rfl) (by simp) ?_
  refine ready_nth (.s (.s (.s (.s (.s .z))))) (fun K hK=>?_)
  go_simp
  refine (C m (Nat.le_refl _) .expr rfl _ ((k+1)+1) _ _ _ HA2.out.ps.drew (by omega) (by rw [HA2.out.len];omega) (by rw [HA2.out.ns];exact HW0.out) (by rw [HA2.out.ns];exact HX3.out)).mono ?_
  rintro e w3 ⟨rfl,hb3⟩
  unfold wrongAt
  go_wp2_with fail
  exact⟨rfl,IPost.bad rfl ((Below.drew (H.out.low HA2.out.mv)).trans hb3)⟩
 have HX3:=hid hx3;clear hx3
 have HR3:=hid hr3;clear hr3 HR2
 have GO3:=hid (run_goes HX3.out (by omega) HW0.out (Ids.nil _) (by simp))
 have gl3:=GO3.out.lo;have gf3:=GO3.out.few;have ge3:=GO3.out.le;have gn3:=GO3.out.len
 simp only [Job.reads] at gl3
 have sc0_0:=HB2_0.out.cell 0
 have sc0_1:=HB2_0.out.cell 1
 have sc0_2:=HB2_0.out.cell 2
 have sl0:=HB2_0.out.lt
 go_wp2_with fail
 go_region_held3 (fun w'=>w'.cell? ⟨w1.heap.size,0,none⟩=some (.int .u8 (tg l k).kind)∧w'.cell? ⟨w1.heap.size,1,none⟩=some (.string (ofL (tx l k)))∧w'.cell? ⟨w1.heap.size,2,none⟩=some (.int .i64 (pl l en k)))
  (first | go_keep | (go_split_ands;refine⟨?_,?_,?_⟩ <;> assumption))
  (first
   | (go_at_call 210;refine (C m (Nat.le_refl _) .expr rfl _ ((k+1)+1) _ _ _ HA2.out.ps.drew (by omega) (by rw [HA2.out.len];omega) (by rw [HA2.out.ns];exact HW0.out) (by rw [HA2.out.ns];exact HX3.out)).mono ?_;rintro e w3 ⟨rfl,ext3,nv3,ha3⟩;have HA3:=hid (HA2.out.drew.trans ha3);have bx3_0:=ha3.blk HA2.out.ps.drew HB2_0.out.drew (by decide) (by decide);have dc0_0:=bx3_0.cell 0;have dc0_1:=bx3_0.cell 1;have dc0_2:=bx3_0.cell 2;have dl0:=bx3_0.lt;have HY3_0:=hid bx3_0;clear bx3_0;have hz3:=HA3.out.mv.size;clear ha3)
   | (go_at_call 204;refine (add_at g tv l en iv ns3.length 25 _ _ _ (tx l k) 0 _ [hd ks3] _ k3 _ _ (HA3.out.ps.alloc _) (kid_one w3 (hd ks3)) HA3.out.len (by omega)).mono ?_;rintro e w4 ⟨rfl,nv4,p4,m4⟩;have by3_0:=m4.blk (HY3_0.out.alloc _) (HA3.out.ps.tag HY3_0.out (by decide) (by decide)).1 (HA3.out.ps.tag HY3_0.out (by decide) (by decide)).2;have ec0_0:=by3_0.cell 0;have ec0_1:=by3_0.cell 1;have ec0_2:=by3_0.cell 2;clear by3_0;have HA4:=hid ((At.alloc HA3.out _).add p4 m4 (by intro b hb;simp [Value.ownBlock] at hb;omega));clear p4 m4))
 all_goals
  obtain rfl:=add_split HR3.out
  go_wp2_with fail
  go_ret
  exact IPost.ok rfl HA4.out
end
end Go.Proofs.YthepmkjggfijoaaGreatDoor
namespace Go.Proofs.YthepmkjggfijoaaGreatDoor
open Go.RowKit Mist
attribute [local go_sem] ofL_extract ofL_size ofL_get ofL_bytes ofL_append
section
variable {g:Nat} {tv:Value} {l:List Tok} {en:Int} {iv:Value} (hF:PF l)
include hF
theorem part_param (m:Nat) (C:∀ f,f≤m→∀ j,isFn j=true→IC g tv l en iv f j) (CL:∀ f,f≤m→∀ e,LC g tv l en iv f e):IC g tv l en iv (m+1) .param:=by
 intro w k xs nv r h hk hn hw hr
 have H:=hid h;clear h
 have HA0:=hid (At.refl H.out)
 have HW0:=hid hw;clear hw
 have hn0:(nds xs).length≤k:=by rw [nds_len];exact hn
 have hlen:=hF.len
 rw [run] at hr
 unfold jobFn
 go_enter Tryz.func206,Tryz.ntmps206
 have HR0:=hid hr;clear hr
 rcases needK_split HR0.out with ⟨he1,hr1⟩ | ⟨he1,rfl⟩
 rotate_left
 ·have HE1:=hid he1;clear he1
  go_wp2_with fail
  refine (name_no g tv l en iv hF _ k _ _ HA0.out.ps (by omega) HE1.out).mono ?_
  rintro e w1 ⟨rfl,hb1⟩
  unfold wrongAt
  go_wp2_with fail
  exact⟨rfl,IPost.bad rfl ((H.out.low HA0.out.mv).trans (hb1.mono (Nat.le_of_lt HA0.out.ps.lt)))⟩
 have HR1:=hid hr1;clear hr1 HR0
 have hlt1:=kd_lt he1 (by simp)
 have HE1:=hid he1;clear he1
 go_wp2_with fail
 refine (name_yes g tv l en iv hF _ k _ _ HA0.out.ps (by omega) HE1.out).mono ?_
 rintro e w1 ⟨rfl,p1,m1⟩
 have HA1:=hid (HA0.out.step p1 m1)
 skip
 clear p1 m1
 unfold TokAt
 have HN1:=hid (Blk.new w1 68 #[.int .u8 (tg l k).kind,.string (ofL (tx l k)),.int .i64 (pl l en k)])
 have HA1001:=hid (HA1.out.alloc (.cells #[.int .u8 (tg l k).kind,.string (ofL (tx l k)),.int .i64 (pl l en k)] 68))
 clear HA1
 rcases need_split HR1.out with ⟨he2,hr2⟩ | ⟨he2,rfl⟩
 rotate_left
 ·have HE2:=hid he2;clear he2
  go_wp2_with fail
  refine (need_no g tv l en iv hF [58] (.inr (by decide +kernel)) _ (k+1) _ _ HA1001.out.ps (by omega) HE2.out).mono ?_
  rintro e w2 ⟨rfl,hb2⟩
  unfold wrongAt
  go_wp2_with fail
  exact⟨rfl,IPost.bad rfl ((H.out.low HA1001.out.mv).trans (hb2.mono (Nat.le_of_lt HA1001.out.ps.lt)))⟩
 have HR2:=hid hr2;clear hr2 HR1
 have hlt2:=tx_lt he2 (by simp)
 have HE2:=hid he2;clear he2
 go_wp2_with fail
 refine (need_yes g tv l en iv hF [58] (.inr (by decide +kernel)) _ (k+1) _ _ HA1001.out.ps (by omega) HE2.out).mono ?_
 rintro e w2 ⟨rfl,p2,m2⟩
 have HB2_0:=hid (m2.blk HN1.out (HA1001.out.ps.tag HN1.out (by decide) (by decide)).1 (HA1001.out.ps.tag HN1.out (by decide) (by decide)).2)
 clear HN1
 have HA2:=hid (HA1001.out.step p2 m2)
 clear HA1001
 clear p2 m2
 rcases thn_split HR2.out with ⟨ks3,k3,ns3,hx3,hr3⟩ | ⟨kb3,hx3,rfl⟩
 rotate_left
 ·have HX3:=hid hx3;clear hx3
  have sc0_0:=HB2_0.out.cell 0
  have sc0_1:=HB2_0.out.cell 1
  have sc0_2:=HB2_0.out.cell 2
  have sl0:=HB2_0.out.lt
  go_wp2_with fail
  refine wp_region_held_drew (S:=fun w'=>w'.cell? ⟨w1.heap.size,0,none⟩=some (.int .u8 (tg l k).kind)∧w'.cell? ⟨w1.heap.size,1,none⟩=some (.string (ofL (tx l k)))∧w'.cell? ⟨w1.heap.size,2,none⟩=some (.int .i64 (pl l en k))) (by kernel_rfl) ⟨sc0_0,sc0_1,sc0_2⟩ (fun hHeld=>?_)
  refine take_nth (i:=0) .z (by kernel_rfl) (by kernel_rfl) (by kernel_rfl) (fun _ _ _ h=>h) (v:=?_) ⟨by rfl,?_⟩ hHeld ?_
  rotate_left
  ·(intro w0 hSw;(try dsimp only at hSw);go_split_ands;go_simp;try with_reducible rfl)
  simp only [Act.put,List.setIfInBounds_toArray,List.set_cons_zero,List.set_cons_succ]
  refine take_nth (i:=1) (.s .z) (by kernel_rfl) (by kernel_rfl) (by kernel_rfl) (fun _ _ _ h=>h) (v:=?_) ⟨by rfl,?_⟩ hHeld ?_
  rotate_left
  ·(intro w0 hSw;(try dsimp only at hSw);go_split_ands;go_simp;try with_reducible rfl)
  simp only [Act.put,List.setIfInBounds_toArray,List.set_cons_zero,List.set_cons_succ]
  refine take_nth (i:=2) (.s (.s .z)) (by kernel_rfl) (by kernel_rfl) (by kernel_rfl) (fun _ _ _ h=>h) (v:=?_) ⟨by rfl,?_⟩ hHeld ?_
  rotate_left
  ·(intro w0 hSw;(try dsimp only at hSw);go_split_ands;go_simp;try with_reducible rfl)
  simp only [Act.put,List.setIfInBounds_toArray,List.set_cons_zero,List.set_cons_succ]
  refine take_nth (i:=3) (.s (.s (.s .z))) (by kernel_rfl) (by kernel_rfl) (by kernel_rfl) (fun _ _ _ h=>h) (v:=?_) ⟨by rfl,?_⟩ hHeld ?_
  rotate_left
  ·(intro w0 hSw;(try dsimp only at hSw);go_split_ands;go_simp;try with_reducible rfl)
  simp only [Act.put,List.setIfInBounds_toArray,List.set_cons_zero,List.set_cons_succ]
  refine take_nth (i:=4) (.s (.s (.s (.s .z)))) (by kernel_rfl) (by kernel_rfl) (by kernel_rfl) (fun _ _ _ h=>h) (v:=?_) ⟨by rfl,?_⟩ hHeld ?_
  rotate_left
  ·(intro w0 hSw;(try dsimp only at hSw);go_split_ands;go_simp;try with_reducible rfl)
  simp only [Act.put,List.setIfInBounds_toArray,List.set_cons_zero,List.set_cons_succ]
  refine wpAnyH_ready (rs:=[5]) (by kernel_rfl) (by simp) ?_
  refine ready_nth (.s (.s (.s (.s (.s .z))))) (fun K hK=>?_)
  go_simp
  refine (C m (Nat.le_refl _) .typ rfl _ ((k+1)+1) _ _ _ HA2.out.ps.drew (by omega) (by rw [HA2.out.len];omega) (by rw [HA2.out.ns];exact HW0.out) (by rw [HA2.out.ns];exact HX3.out)).mono ?_
  rintro e w3 ⟨rfl,hb3⟩
  unfold wrongAt
  go_wp2_with fail
  exact⟨rfl,IPost.bad rfl ((Below.drew (H.out.low HA2.out.mv)).trans hb3)⟩
 have HX3:=hid hx3;clear hx3
 have HR3:=hid hr3;clear hr3 HR2
 have GO3:=hid (run_goes HX3.out (by omega) HW0.out (Ids.nil _) (by simp))
 have gl3:=GO3.out.lo;have gf3:=GO3.out.few;have ge3:=GO3.out.le;have gn3:=GO3.out.len
 simp only [Job.reads] at gl3
 have sc0_0:=HB2_0.out.cell 0
 have sc0_1:=HB2_0.out.cell 1
 have sc0_2:=HB2_0.out.cell 2
 have sl0:=HB2_0.out.lt
 go_wp2_with fail
 go_region_held3 (fun w'=>w'.cell? ⟨w1.heap.size,0,none⟩=some (.int .u8 (tg l k).kind)∧w'.cell? ⟨w1.heap.size,1,none⟩=some (.string (ofL (tx l k)))∧w'.cell? ⟨w1.heap.size,2,none⟩=some (.int .i64 (pl l en k)))
  (first | go_keep | (go_split_ands;refine⟨?_,?_,?_⟩ <;> assumption))
  (first
   | (go_at_call 207;refine (C m (Nat.le_refl _) .typ rfl _ ((k+1)+1) _ _ _ HA2.out.ps.drew (by omega) (by rw [HA2.out.len];omega) (by rw [HA2.out.ns];exact HW0.out) (by rw [HA2.out.ns];exact HX3.out)).mono ?_;rintro e w3 ⟨rfl,ext3,nv3,ha3⟩;have HA3:=hid (HA2.out.drew.trans ha3);have bx3_0:=ha3.blk HA2.out.ps.drew HB2_0.out.drew (by decide) (by decide);have dc0_0:=bx3_0.cell 0;have dc0_1:=bx3_0.cell 1;have dc0_2:=bx3_0.cell 2;have dl0:=bx3_0.lt;have HY3_0:=hid bx3_0;clear bx3_0;have hz3:=HA3.out.mv.size;clear ha3)
   | (go_at_call 204;refine (add_at g tv l en iv ns3.length 34 _ _ _ (tx l k) 0 _ [hd ks3] _ k3 _ _ (HA3.out.ps.alloc _) (kid_one w3 (hd ks3)) HA3.out.len (by omega)).mono ?_;rintro e w4 ⟨rfl,nv4,p4,m4⟩;have by3_0:=m4.blk (HY3_0.out.alloc _) (HA3.out.ps.tag HY3_0.out (by decide) (by decide)).1 (HA3.out.ps.tag HY3_0.out (by decide) (by decide)).2;have ec0_0:=by3_0.cell 0;have ec0_1:=by3_0.cell 1;have ec0_2:=by3_0.cell 2;clear by3_0;have HA4:=hid ((At.alloc HA3.out _).add p4 m4 (by intro b hb;simp [Value.ownBlock] at hb;omega));clear p4 m4))
 all_goals
  obtain rfl:=add_split HR3.out
  go_wp2_with fail
  go_ret
  exact IPost.ok rfl HA4.out
end
end Go.Proofs.YthepmkjggfijoaaGreatDoor
