/-
  PARTS of the proof: TIrecord, TIint, TIchoose.
-/
import Derived.Test.YthepmkjggfijoaaGreatDoorB03
import Derived.Test.YthepmkjggfijoaaGreatDoorB15
set_option linter.all false
set_option maxRecDepth 100000
set_option maxHeartbeats 4000000
open Go.Lib (hid)
namespace Go.Proofs.YthepmkjggfijoaaGreatDoor
open Go.RowKit Mist
attribute [local go_sem] ofL_extract ofL_size ofL_get ofL_bytes ofL_append
section
variable {g:Nat} {tv:Value} {l:List Tok} {en:Int} {iv:Value} (hF:PF l)
include hF
theorem item_record (m:Nat) (w:World) (k:Nat) (xs:List NV) (nv:Value) (r:Res) (h:PS g tv l en iv w (k+1) xs nv) (hk:k+1≤l.length) (hn:xs.length≤k) (hw:Wf (nds xs)) (hr:itemAt l en m .record k (nds xs)=some r) :
  Calls Tryz.prog 183 #[.pointer (some ⟨g,0,none⟩),.agg #[.int .u8 (tg l k).kind,.string (ofL (tx l k)),.int .i64 (pl l en k)]] w (IPost g tv l en iv w xs nv r):=by
 have C:=fun (f:Nat) (_:f≤m) (j:Job) (hj:isFn j=true)=>parts_any (g:=g) (tv:=tv) (en:=en) (iv:=iv) hF f j hj
 have CL:=fun (f:Nat) (_:f≤m) (e:El)=>lists_any (g:=g) (tv:=tv) (en:=en) (iv:=iv) hF f e
 have H:=hid h;clear h
 have HAI:=hid ((At.refl H.out).alloc (.cells #[.int .u8 (tg l k).kind,.string (ofL (tx l k)),.int .i64 (pl l en k)] 68))
 have HBI:=hid (Blk.new w 68 #[.int .u8 (tg l k).kind,.string (ofL (tx l k)),.int .i64 (pl l en k)])
 have HW0:=hid hw;clear hw
 have hn0:(nds xs).length≤k:=by rw [nds_len];exact hn
 have hlen:=hF.len
 unfold itemAt at hr
 have HR0:=hid hr;clear hr
 go_enter Tryz.func183,Tryz.ntmps183
 rcases needK_split HR0.out with ⟨he1,hr1⟩ | ⟨he1,rfl⟩
 rotate_left
 ·have HE1:=hid he1;clear he1
  go_wp2_with fail
  refine (name_no g tv l en iv hF _ (k+1) _ _ HAI.out.ps (by omega) HE1.out).mono ?_
  rintro e w1 ⟨rfl,hb1⟩
  unfold wrongAt
  go_wp2_with fail
  exact⟨rfl,IPost.bad rfl ((H.out.low HAI.out.mv).trans (hb1.mono (Nat.le_of_lt HAI.out.ps.lt)))⟩
 have HR1:=hid hr1;clear hr1 HR0
 have hlt1:=kd_lt he1 (by simp)
 have HE1:=hid he1;clear he1
 go_wp2_with fail
 refine (name_yes g tv l en iv hF _ (k+1) _ _ HAI.out.ps (by omega) HE1.out).mono ?_
 rintro e w1 ⟨rfl,p1,m1⟩
 have HB1_0:=hid (m1.blk HBI.out (HAI.out.ps.tag HBI.out (by decide) (by decide)).1 (HAI.out.ps.tag HBI.out (by decide) (by decide)).2)
 clear HBI
 have HA1:=hid (HAI.out.step p1 m1)
 clear HAI
 clear p1 m1
 unfold TokAt
 have HB1001_0:=hid (HB1_0.out.alloc (.cells #[.int .u8 (tg l (k+1)).kind,.string (ofL (tx l (k+1))),.int .i64 (pl l en (k+1))] 68))
 clear HB1_0
 have HN1:=hid (Blk.new w1 68 #[.int .u8 (tg l (k+1)).kind,.string (ofL (tx l (k+1))),.int .i64 (pl l en (k+1))])
 have HA1001:=hid (HA1.out.alloc (.cells #[.int .u8 (tg l (k+1)).kind,.string (ofL (tx l (k+1))),.int .i64 (pl l en (k+1))] 68))
 clear HA1
 rcases need_split HR1.out with ⟨he2,hr2⟩ | ⟨he2,rfl⟩
 rotate_left
 ·have HE2:=hid he2;clear he2
  go_wp2_with fail
  refine (need_no g tv l en iv hF [61] (.inr (by decide +kernel)) _ ((k+1)+1) _ _ HA1001.out.ps (by omega) HE2.out).mono ?_
  rintro e w2 ⟨rfl,hb2⟩
  unfold wrongAt
  go_wp2_with fail
  exact⟨rfl,IPost.bad rfl ((H.out.low HA1001.out.mv).trans (hb2.mono (Nat.le_of_lt HA1001.out.ps.lt)))⟩
 have HR2:=hid hr2;clear hr2 HR1
 have hlt2:=tx_lt he2 (by simp)
 have HE2:=hid he2;clear he2
 go_wp2_with fail
 refine (need_yes g tv l en iv hF [61] (.inr (by decide +kernel)) _ ((k+1)+1) _ _ HA1001.out.ps (by omega) HE2.out).mono ?_
 rintro e w2 ⟨rfl,p2,m2⟩
 have HB2_0:=hid (m2.blk HB1001_0.out (HA1001.out.ps.tag HB1001_0.out (by decide) (by decide)).1 (HA1001.out.ps.tag HB1001_0.out (by decide) (by decide)).2)
 have HB2_1:=hid (m2.blk HN1.out (HA1001.out.ps.tag HN1.out (by decide) (by decide)).1 (HA1001.out.ps.tag HN1.out (by decide) (by decide)).2)
 clear HB1001_0 HN1
 have HA2:=hid (HA1001.out.step p2 m2)
 clear HA1001
 clear p2 m2
 rcases need_split HR2.out with ⟨he3,hr3⟩ | ⟨he3,rfl⟩
 rotate_left
 ·have HE3:=hid he3;clear he3
  go_wp2_with fail
  refine (need_no g tv l en iv hF [123] (.inr (by decide +kernel)) _ (((k+1)+1)+1) _ _ HA2.out.ps (by omega) HE3.out).mono ?_
  rintro e w3 ⟨rfl,hb3⟩
  unfold wrongAt
  go_wp2_with fail
  exact⟨rfl,IPost.bad rfl ((H.out.low HA2.out.mv).trans (hb3.mono (Nat.le_of_lt HA2.out.ps.lt)))⟩
 have HR3:=hid hr3;clear hr3 HR2
 have hlt3:=tx_lt he3 (by simp)
 have HE3:=hid he3;clear he3
 go_wp2_with fail
 refine (need_yes g tv l en iv hF [123] (.inr (by decide +kernel)) _ (((k+1)+1)+1) _ _ HA2.out.ps (by omega) HE3.out).mono ?_
 rintro e w3 ⟨rfl,p3,m3⟩
 have HB3_0:=hid (m3.blk HB2_0.out (HA2.out.ps.tag HB2_0.out (by decide) (by decide)).1 (HA2.out.ps.tag HB2_0.out (by decide) (by decide)).2)
 have HB3_1:=hid (m3.blk HB2_1.out (HA2.out.ps.tag HB2_1.out (by decide) (by decide)).1 (HA2.out.ps.tag HB2_1.out (by decide) (by decide)).2)
 clear HB2_0 HB2_1
 have HA3:=hid (HA2.out.step p3 m3)
 clear HA2
 clear p3 m3
 rcases thn_split HR3.out with ⟨ks4,k4,ns4,hx4,hr4⟩ | ⟨kb4,hx4,rfl⟩
 rotate_left
 ·have HX4:=hid hx4;clear hx4
  go_wp2_with fail
  refine (CL m (Nat.le_refl _) .param _ ((((k+1)+1)+1)+1) _ _ _ HA3.out.ps (by omega) (by rw [HA3.out.len];omega) (by rw [HA3.out.ns];exact HW0.out) (by rw [HA3.out.ns];exact HX4.out)).mono ?_
  rintro e w4 ⟨rfl,hb4⟩
  unfold wrongAt
  go_wp2_with fail
  exact⟨rfl,IPost.bad rfl ((H.out.low HA3.out.mv).trans hb4)⟩
 have HX4:=hid hx4;clear hx4
 have HR4:=hid hr4;clear hr4 HR3
 go_wp2_with fail
 refine (CL m (Nat.le_refl _) .param _ ((((k+1)+1)+1)+1) _ _ _ HA3.out.ps (by omega) (by rw [HA3.out.len];omega) (by rw [HA3.out.ns];exact HW0.out) (by rw [HA3.out.ns];exact HX4.out)).mono ?_
 rintro e w4 ⟨v4,ext4,nv4,rfl,ho4,ha4,hd4⟩
 have HV4:=hid (own_base (base':=w.heap.size) ho4 (fun b hb=>Nat.le_trans HA3.out.mv.size (ho4.lt b hb).1));clear ho4 hd4
 have GO4:=hid (run_goes HX4.out (by omega) HW0.out (Ids.nil _) (by simp))
 have gl4:=GO4.out.lo;have gf4:=GO4.out.few;have ge4:=GO4.out.le;have gn4:=GO4.out.len
 simp only [Job.reads] at gl4
 have HB4_0:=hid (ha4.blk HA3.out.ps HB3_0.out (by decide) (by decide))
 have HB4_1:=hid (ha4.blk HA3.out.ps HB3_1.out (by decide) (by decide))
 clear HB3_0 HB3_1
 have HWF4:=hid GO4.out.wf
 have HA4:=hid (HA3.out.trans ha4)
 clear HA3
 clear ha4
 rcases need_split HR4.out with ⟨he5,hr5⟩ | ⟨he5,rfl⟩
 rotate_left
 ·have HE5:=hid he5;clear he5
  go_wp2_with fail
  refine (need_no g tv l en iv hF [125] (.inr (by decide +kernel)) _ k4 _ _ HA4.out.ps (by omega) HE5.out).mono ?_
  rintro e w5 ⟨rfl,hb5⟩
  unfold wrongAt
  go_wp2_with fail
  exact⟨rfl,IPost.bad rfl ((H.out.low HA4.out.mv).trans (hb5.mono (Nat.le_of_lt HA4.out.ps.lt)))⟩
 have HR5:=hid hr5;clear hr5 HR4
 have hlt5:=tx_lt he5 (by simp)
 have HE5:=hid he5;clear he5
 go_wp2_with fail
 refine (need_yes g tv l en iv hF [125] (.inr (by decide +kernel)) _ k4 _ _ HA4.out.ps (by omega) HE5.out).mono ?_
 rintro e w5 ⟨rfl,p5,m5⟩
 have HB5_0:=hid (m5.blk HB4_0.out (HA4.out.ps.tag HB4_0.out (by decide) (by decide)).1 (HA4.out.ps.tag HB4_0.out (by decide) (by decide)).2)
 have HB5_1:=hid (m5.blk HB4_1.out (HA4.out.ps.tag HB4_1.out (by decide) (by decide)).1 (HA4.out.ps.tag HB4_1.out (by decide) (by decide)).2)
 clear HB4_0 HB4_1
 have HV5_0:=hid (HA4.out.ps.row_mv m5 HV4.out (by decide) (by decide))
 clear HV4
 have HA5:=hid (HA4.out.step p5 m5)
 clear HA4
 clear p5 m5
 obtain rfl:=add_split HR5.out
 have sc0_0:=HB5_0.out.cell 0
 have sc0_1:=HB5_0.out.cell 1
 have sc0_2:=HB5_0.out.cell 2
 have sl0:=HB5_0.out.lt
 have sc1_1:=HB5_1.out.cell 1
 have sl1:=HB5_1.out.lt
 go_wp2_with fail
 refine (add_at g tv l en iv ns4.length 41 _ _ _ (tx l (k+1)) 0 _ ks4 _ (k4+1) _ _ HA5.out.ps (own_base HV5_0.out (fun _ _=>Nat.zero_le _)) HA5.out.len (by omega)).mono ?_
 rintro e w6 ⟨rfl,nv6,p6,m6⟩
 have HAF:=hid (HA5.out.add p6 m6 (fun b hb=>(HV5_0.out.lt b hb).1));clear p6 m6
 go_wp2_with fail
 go_ret
 exact IPost.ok rfl HAF.out
end
end Go.Proofs.YthepmkjggfijoaaGreatDoor
namespace Go.Proofs.YthepmkjggfijoaaGreatDoor
open Go.RowKit Mist
attribute [local go_sem] ofL_extract ofL_size ofL_get ofL_bytes ofL_append
section
variable {g:Nat} {tv:Value} {l:List Tok} {en:Int} {iv:Value} (hF:PF l)
theorem num_inF {l:List Tok} (hF:PF l) {k:Nat} (h:(tg l k).kind=2):numOf (tx l k) < 10000:=by
 have h1:=hF.kind _ (tg_mem l k (kd_lt h (by simp)))
 have h2:kind (tx l k)=2:=by unfold tx;rw [h1,h]
 obtain⟨h3,_,h4⟩:=kind_two _ h2
 exact numOf_lt _ h4 h3
theorem goes_int {l:List Tok} {en:Int} {k k1:Nat} {ns ns1:List Nd} {asl:List Int} (hk:k≤l.length) (hw:Wf ns) (e:intAt l en k ns=some (.ok asl k1 ns1)):Goes l k (k+1) ns asl k1 ns1:=((fine_int hk hw).2 _ e).1 asl k1 ns1 rfl
include hF
theorem int_any (w:World) (k:Nat) (xs:List NV) (nv:Value) (r:Res) (h:PS g tv l en iv w k xs nv) (hk:k≤l.length) (hn:xs.length≤k) (hw:Wf (nds xs)) (hr:intAt l en k (nds xs)=some r) :
  Calls Tryz.prog 203 #[.pointer (some ⟨g,0,none⟩)] w (IPost g tv l en iv w xs nv r):=by
 have H:=hid h;clear h
 have HA0:=hid (At.refl H.out)
 have HW0:=hid hw;clear hw
 have hn0:(nds xs).length≤k:=by rw [nds_len];exact hn
 have hlen:=hF.len
 unfold intAt at hr
 go_enter Tryz.func203,Tryz.ntmps203
 have HR0:=hid hr;clear hr
 go_wp2_with fail
 refine (look_any g tv l en iv _ k _ _ HA0.out.ps (by omega) hlen).mono ?_
 rintro e w1 ⟨rfl,hb1⟩
 have HA1:=hid (HA0.out.below hb1)
 skip
 clear hb1
 have HN1:=hid (Blk.new w1 68 #[.int .u8 (tg l k).kind,.string (ofL (tx l k)),.int .i64 (pl l en k)])
 have HA1001:=hid (HA1.out.alloc (.cells #[.int .u8 (tg l k).kind,.string (ofL (tx l k)),.int .i64 (pl l en k)] 68))
 clear HA1
 rcases if_split HR0.out with ⟨he2,hr2⟩ | ⟨he2,hr2⟩
 ·skip
  have hlt2:=tx_lt he2 (by simp)
  have HE2:=hid he2;clear he2
  have HR2:=hid hr2;clear hr2
  go_wp2_with fail
  refine (has_yes g tv l en iv hF [45] (.inr (by decide +kernel)) _ k _ _ HA1001.out.ps (by omega) HE2.out).mono ?_
  rintro e w3 ⟨rfl,p3,m3⟩
  have HB3_0:=hid (m3.blk HN1.out (HA1001.out.ps.tag HN1.out (by decide) (by decide)).1 (HA1001.out.ps.tag HN1.out (by decide) (by decide)).2)
  clear HN1
  have HA3:=hid (HA1001.out.step p3 m3)
  clear HA1001
  clear p3 m3
  rcases needK_split HR2.out with ⟨he4,hr4⟩ | ⟨he4,rfl⟩
  rotate_left
  ·have HE4:=hid he4;clear he4
   go_wp2_with fail
   refine (number_no g tv l en iv hF _ (k+1) _ _ HA3.out.ps (by omega) HE4.out).mono ?_
   rintro e w4 ⟨rfl,hb4⟩
   unfold wrongAt
   go_wp2_with fail
   exact⟨rfl,IPost.bad rfl ((H.out.low HA3.out.mv).trans (hb4.mono (Nat.le_of_lt HA3.out.ps.lt)))⟩
  have HR4:=hid hr4;clear hr4 HR2
  have hlt4:=kd_lt he4 (by simp)
  have HE4:=hid he4;clear he4
  go_wp2_with fail
  refine (number_yes g tv l en iv hF _ (k+1) _ _ HA3.out.ps (by omega) HE4.out).mono ?_
  rintro e w4 ⟨rfl,p4,m4⟩
  have HB4_0:=hid (m4.blk HB3_0.out (HA3.out.ps.tag HB3_0.out (by decide) (by decide)).1 (HA3.out.ps.tag HB3_0.out (by decide) (by decide)).2)
  clear HB3_0
  have HA4:=hid (HA3.out.step p4 m4)
  clear HA3
  clear p4 m4
  unfold TokAt
  have HB1004_0:=hid (HB4_0.out.alloc (.cells #[.int .u8 (tg l (k+1)).kind,.string (ofL (tx l (k+1))),.int .i64 (pl l en (k+1))] 68))
  clear HB4_0
  have HN4:=hid (Blk.new w4 68 #[.int .u8 (tg l (k+1)).kind,.string (ofL (tx l (k+1))),.int .i64 (pl l en (k+1))])
  have HA1004:=hid (HA4.out.alloc (.cells #[.int .u8 (tg l (k+1)).kind,.string (ofL (tx l (k+1))),.int .i64 (pl l en (k+1))] 68))
  clear HA4
  have hnb:=num_inF hF (k:=(k+1)) HE4.out
  obtain rfl:=add_split HR4.out
  have sc0_0:=HB1004_0.out.cell 0
  have sc0_1:=HB1004_0.out.cell 1
  have sc0_2:=HB1004_0.out.cell 2
  have sl0:=HB1004_0.out.lt
  go_wp2_with fail
  refine (add_at g tv l en iv (nds xs).length 1 _ _ _ [] (-((numOf (tx l (k+1)):Nat):Int)) _ [] _ ((k+1)+1) _ _ HA1004.out.ps (KidRow.none_ _) HA1004.out.len (by omega)).mono ?_
  rintro e w5 ⟨rfl,nv5,p5,m5⟩
  have HAF:=hid (HA1004.out.add p5 m5 (by intro b hb;simp [Value.ownBlock] at hb));clear p5 m5
  go_wp2_with fail
  go_ret
  exact IPost.ok rfl HAF.out
 ·skip
  have HE2:=hid he2;clear he2
  have HR2:=hid hr2;clear hr2
  go_wp2_with fail
  refine (has_no g tv l en iv hF [45] (.inr (by decide +kernel)) _ k _ _ HA1001.out.ps (by omega) HE2.out).mono ?_
  rintro e w6 ⟨rfl,hb6⟩
  have HB6_0:=hid (HN1.out.below hb6 HN1.out.lt)
  clear HN1
  have HA6:=hid (HA1001.out.below hb6)
  clear HA1001
  clear hb6
  rcases needK_split HR2.out with ⟨he7,hr7⟩ | ⟨he7,rfl⟩
  rotate_left
  ·have HE7:=hid he7;clear he7
   go_wp2_with fail
   refine (number_no g tv l en iv hF _ k _ _ HA6.out.ps (by omega) HE7.out).mono ?_
   rintro e w7 ⟨rfl,hb7⟩
   unfold wrongAt
   go_wp2_with fail
   exact⟨rfl,IPost.bad rfl ((H.out.low HA6.out.mv).trans (hb7.mono (Nat.le_of_lt HA6.out.ps.lt)))⟩
  have HR7:=hid hr7;clear hr7 HR2
  have hlt7:=kd_lt he7 (by simp)
  have HE7:=hid he7;clear he7
  go_wp2_with fail
  refine (number_yes g tv l en iv hF _ k _ _ HA6.out.ps (by omega) HE7.out).mono ?_
  rintro e w7 ⟨rfl,p7,m7⟩
  have HB7_0:=hid (m7.blk HB6_0.out (HA6.out.ps.tag HB6_0.out (by decide) (by decide)).1 (HA6.out.ps.tag HB6_0.out (by decide) (by decide)).2)
  clear HB6_0
  have HA7:=hid (HA6.out.step p7 m7)
  clear HA6
  clear p7 m7
  unfold TokAt
  have HB1007_0:=hid (HB7_0.out.alloc (.cells #[.int .u8 (tg l k).kind,.string (ofL (tx l k)),.int .i64 (pl l en k)] 68))
  clear HB7_0
  have HN7:=hid (Blk.new w7 68 #[.int .u8 (tg l k).kind,.string (ofL (tx l k)),.int .i64 (pl l en k)])
  have HA1007:=hid (HA7.out.alloc (.cells #[.int .u8 (tg l k).kind,.string (ofL (tx l k)),.int .i64 (pl l en k)] 68))
  clear HA7
  have hnb:=num_inF hF (k:=k) HE7.out
  obtain rfl:=add_split HR7.out
  have sc0_0:=HB1007_0.out.cell 0
  have sc0_1:=HB1007_0.out.cell 1
  have sc0_2:=HB1007_0.out.cell 2
  have sl0:=HB1007_0.out.lt
  go_wp2_with fail
  refine (add_at g tv l en iv (nds xs).length 1 _ _ _ [] ((numOf (tx l k):Nat):Int) _ [] _ (k+1) _ _ HA1007.out.ps (KidRow.none_ _) HA1007.out.len (by omega)).mono ?_
  rintro e w8 ⟨rfl,nv8,p8,m8⟩
  have HAF:=hid (HA1007.out.add p8 m8 (by intro b hb;simp [Value.ownBlock] at hb));clear p8 m8
  go_wp2_with fail
  go_ret
  exact IPost.ok rfl HAF.out
end
end Go.Proofs.YthepmkjggfijoaaGreatDoor
namespace Go.Proofs.YthepmkjggfijoaaGreatDoor
open Go.RowKit Mist
attribute [local go_sem] ofL_extract ofL_size ofL_get ofL_bytes ofL_append
section
variable {g:Nat} {tv:Value} {l:List Tok} {en:Int} {iv:Value} (hF:PF l)
include hF
theorem item_choose (m:Nat) (w:World) (k:Nat) (xs:List NV) (nv:Value) (r:Res) (h:PS g tv l en iv w (k+1) xs nv) (hk:k+1≤l.length) (hn:xs.length≤k) (hw:Wf (nds xs)) (hr:itemAt l en m .choose k (nds xs)=some r) :
  Calls Tryz.prog 182 #[.pointer (some ⟨g,0,none⟩),.agg #[.int .u8 (tg l k).kind,.string (ofL (tx l k)),.int .i64 (pl l en k)]] w (IPost g tv l en iv w xs nv r):=by
 have C:=fun (f:Nat) (_:f≤m) (j:Job) (hj:isFn j=true)=>parts_any (g:=g) (tv:=tv) (en:=en) (iv:=iv) hF f j hj
 have CL:=fun (f:Nat) (_:f≤m) (e:El)=>lists_any (g:=g) (tv:=tv) (en:=en) (iv:=iv) hF f e
 have H:=hid h;clear h
 have HAI:=hid ((At.refl H.out).alloc (.cells #[.int .u8 (tg l k).kind,.string (ofL (tx l k)),.int .i64 (pl l en k)] 68))
 have HBI:=hid (Blk.new w 68 #[.int .u8 (tg l k).kind,.string (ofL (tx l k)),.int .i64 (pl l en k)])
 have HW0:=hid hw;clear hw
 have hn0:(nds xs).length≤k:=by rw [nds_len];exact hn
 have hlen:=hF.len
 unfold itemAt at hr
 have HR0:=hid hr;clear hr
 go_enter Tryz.func182,Tryz.ntmps182
 rcases needK_split HR0.out with ⟨he1,hr1⟩ | ⟨he1,rfl⟩
 rotate_left
 ·have HE1:=hid he1;clear he1
  go_wp2_with fail
  refine (name_no g tv l en iv hF _ (k+1) _ _ HAI.out.ps (by omega) HE1.out).mono ?_
  rintro e w1 ⟨rfl,hb1⟩
  unfold wrongAt
  go_wp2_with fail
  exact⟨rfl,IPost.bad rfl ((H.out.low HAI.out.mv).trans (hb1.mono (Nat.le_of_lt HAI.out.ps.lt)))⟩
 have HR1:=hid hr1;clear hr1 HR0
 have hlt1:=kd_lt he1 (by simp)
 have HE1:=hid he1;clear he1
 go_wp2_with fail
 refine (name_yes g tv l en iv hF _ (k+1) _ _ HAI.out.ps (by omega) HE1.out).mono ?_
 rintro e w1 ⟨rfl,p1,m1⟩
 have HB1_0:=hid (m1.blk HBI.out (HAI.out.ps.tag HBI.out (by decide) (by decide)).1 (HAI.out.ps.tag HBI.out (by decide) (by decide)).2)
 clear HBI
 have HA1:=hid (HAI.out.step p1 m1)
 clear HAI
 clear p1 m1
 unfold TokAt
 have HB1001_0:=hid (HB1_0.out.alloc (.cells #[.int .u8 (tg l (k+1)).kind,.string (ofL (tx l (k+1))),.int .i64 (pl l en (k+1))] 68))
 clear HB1_0
 have HN1:=hid (Blk.new w1 68 #[.int .u8 (tg l (k+1)).kind,.string (ofL (tx l (k+1))),.int .i64 (pl l en (k+1))])
 have HA1001:=hid (HA1.out.alloc (.cells #[.int .u8 (tg l (k+1)).kind,.string (ofL (tx l (k+1))),.int .i64 (pl l en (k+1))] 68))
 clear HA1
 rcases need_split HR1.out with ⟨he2,hr2⟩ | ⟨he2,rfl⟩
 rotate_left
 ·have HE2:=hid he2;clear he2
  go_wp2_with fail
  refine (need_no g tv l en iv hF [58] (.inr (by decide +kernel)) _ ((k+1)+1) _ _ HA1001.out.ps (by omega) HE2.out).mono ?_
  rintro e w2 ⟨rfl,hb2⟩
  unfold wrongAt
  go_wp2_with fail
  exact⟨rfl,IPost.bad rfl ((H.out.low HA1001.out.mv).trans (hb2.mono (Nat.le_of_lt HA1001.out.ps.lt)))⟩
 have HR2:=hid hr2;clear hr2 HR1
 have hlt2:=tx_lt he2 (by simp)
 have HE2:=hid he2;clear he2
 go_wp2_with fail
 refine (need_yes g tv l en iv hF [58] (.inr (by decide +kernel)) _ ((k+1)+1) _ _ HA1001.out.ps (by omega) HE2.out).mono ?_
 rintro e w2 ⟨rfl,p2,m2⟩
 have HB2_0:=hid (m2.blk HB1001_0.out (HA1001.out.ps.tag HB1001_0.out (by decide) (by decide)).1 (HA1001.out.ps.tag HB1001_0.out (by decide) (by decide)).2)
 have HB2_1:=hid (m2.blk HN1.out (HA1001.out.ps.tag HN1.out (by decide) (by decide)).1 (HA1001.out.ps.tag HN1.out (by decide) (by decide)).2)
 clear HB1001_0 HN1
 have HA2:=hid (HA1001.out.step p2 m2)
 clear HA1001
 clear p2 m2
 rcases thn_split HR2.out with ⟨ks3,k3,ns3,hx3,hr3⟩ | ⟨kb3,hx3,rfl⟩
 rotate_left
 ·have HX3:=hid hx3;clear hx3
  go_wp2_with fail
  refine (int_any hF _ (((k+1)+1)+1) _ _ _ HA2.out.ps (by omega) (by rw [HA2.out.len];omega) (by rw [HA2.out.ns];exact HW0.out) (by rw [HA2.out.ns];exact HX3.out)).mono ?_
  rintro e w3 ⟨rfl,hb3⟩
  unfold wrongAt
  go_wp2_with fail
  exact⟨rfl,IPost.bad rfl ((H.out.low HA2.out.mv).trans hb3)⟩
 have HX3:=hid hx3;clear hx3
 have HR3:=hid hr3;clear hr3 HR2
 go_wp2_with fail
 refine (int_any hF _ (((k+1)+1)+1) _ _ _ HA2.out.ps (by omega) (by rw [HA2.out.len];omega) (by rw [HA2.out.ns];exact HW0.out) (by rw [HA2.out.ns];exact HX3.out)).mono ?_
 rintro e w3 ⟨rfl,ext3,nv3,ha3⟩
 have GO3:=hid (goes_int (by omega) HW0.out HX3.out)
 have gl3:=GO3.out.lo;have gf3:=GO3.out.few;have ge3:=GO3.out.le;have gn3:=GO3.out.len
 have HB3_0:=hid (ha3.blk HA2.out.ps HB2_0.out (by decide) (by decide))
 have HB3_1:=hid (ha3.blk HA2.out.ps HB2_1.out (by decide) (by decide))
 clear HB2_0 HB2_1
 have HWF3:=hid GO3.out.wf
 have HA3:=hid (HA2.out.trans ha3)
 clear HA2
 clear ha3
 rcases need_split HR3.out with ⟨he4,hr4⟩ | ⟨he4,rfl⟩
 rotate_left
 ·have HE4:=hid he4;clear he4
  go_wp2_with fail
  refine (need_no g tv l en iv hF [46,46] (.inr (by decide +kernel)) _ k3 _ _ HA3.out.ps (by omega) HE4.out).mono ?_
  rintro e w4 ⟨rfl,hb4⟩
  unfold wrongAt
  go_wp2_with fail
  exact⟨rfl,IPost.bad rfl ((H.out.low HA3.out.mv).trans (hb4.mono (Nat.le_of_lt HA3.out.ps.lt)))⟩
 have HR4:=hid hr4;clear hr4 HR3
 have hlt4:=tx_lt he4 (by simp)
 have HE4:=hid he4;clear he4
 go_wp2_with fail
 refine (need_yes g tv l en iv hF [46,46] (.inr (by decide +kernel)) _ k3 _ _ HA3.out.ps (by omega) HE4.out).mono ?_
 rintro e w4 ⟨rfl,p4,m4⟩
 have HB4_0:=hid (m4.blk HB3_0.out (HA3.out.ps.tag HB3_0.out (by decide) (by decide)).1 (HA3.out.ps.tag HB3_0.out (by decide) (by decide)).2)
 have HB4_1:=hid (m4.blk HB3_1.out (HA3.out.ps.tag HB3_1.out (by decide) (by decide)).1 (HA3.out.ps.tag HB3_1.out (by decide) (by decide)).2)
 clear HB3_0 HB3_1
 have HA4:=hid (HA3.out.step p4 m4)
 clear HA3
 clear p4 m4
 rcases thn_split HR4.out with ⟨ks5,k5,ns5,hx5,hr5⟩ | ⟨kb5,hx5,rfl⟩
 rotate_left
 ·have HX5:=hid hx5;clear hx5
  have sc0_0:=HB4_0.out.cell 0
  have sc0_1:=HB4_0.out.cell 1
  have sc0_2:=HB4_0.out.cell 2
  have sl0:=HB4_0.out.lt
  have sc1_1:=HB4_1.out.cell 1
  have sl1:=HB4_1.out.lt
  go_wp2_with fail
  refine wp_region_held_drew (S:=fun w'=>w'.cell? ⟨w.heap.size,0,none⟩=some (.int .u8 (tg l k).kind)∧w'.cell? ⟨w.heap.size,1,none⟩=some (.string (ofL (tx l k)))∧w'.cell? ⟨w.heap.size,2,none⟩=some (.int .i64 (pl l en k))∧w'.cell? ⟨w1.heap.size,1,none⟩=some (.string (ofL (tx l (k+1))))) (by kernel_rfl) ⟨sc0_0,sc0_1,sc0_2,sc1_1⟩ (fun hHeld=>?_)
  refine take_nth (i:=0) .z (by kernel_rfl) (by kernel_rfl) (by kernel_rfl) (fun _ _ _ h=>h) (v:=?_) ⟨by rfl,?_⟩ hHeld ?_
  rotate_left
  ·(intro w0 hSw;(try dsimp only at hSw);go_split_ands;go_simp;try with_reducible rfl)
  simp only [Act.put,List.setIfInBounds_toArray,List.set_cons_zero,List.set_cons_succ]
  refine take_nth (i:=1) (.s .z) (by kernel_rfl) (by kernel_rfl) (by kernel_rfl) (fun _ _ _ h=>h) (v:=?_) ⟨by rfl,?_⟩ hHeld ?_
  rotate_left
  ·(intro w0 hSw;(try dsimp only at hSw);go_split_ands;go_simp;try with_reducible rfl)
  simp only [Act.put,List.setIfInBounds_toArray,List.set_cons_zero,List.set_cons_succ]
  refine take_nth (i:=2) (.s (.s .z)) (by kernel_rfl) (by kernel_rfl) (by kernel_rfl) (fun _ _ _ h=>h) (v:=?_) ⟨by rfl,?_⟩ hHeld ?_
  rotate_left
  ·(intro w0 hSw;(try dsimp only at hSw);go_split_ands;go_simp;try with_reducible rfl)
  simp only [Act.put,List.setIfInBounds_toArray,List.set_cons_zero,List.set_cons_succ]
  refine take_nth (i:=3) (.s (.s (.s .z))) (by kernel_rfl) (by kernel_rfl) (by kernel_rfl) (fun _ _ _ h=>h) (v:=?_) ⟨by rfl,?_⟩ hHeld ?_
  rotate_left
  ·(intro w0 hSw;(try dsimp only at hSw);go_split_ands;go_simp;try with_reducible rfl)
  simp only [Act.put,List.setIfInBounds_toArray,List.set_cons_zero,List.set_cons_succ]
  refine take_nth (i:=4) (.s (.s (.s (.s .z)))) (by kernel_rfl) (by kernel_rfl) (by kernel_rfl) (fun _ _ _ h=>h) (v:=?_) ⟨by rfl,?_⟩ hHeld ?_
  rotate_left
  ·(intro w0 hSw;(try dsimp only at hSw);go_split_ands;go_simp;try with_reducible rfl)
  simp only [Act.put,List.setIfInBounds_toArray,List.set_cons_zero,List.set_cons_succ]
  refine take_nth (i:=5) (.s (.s (.s (.s (.s .z))))) (by kernel_rfl) (by kernel_rfl) (by kernel_rfl) (fun _ _ _ h=>h) (v:=?_) ⟨by rfl,?_⟩ hHeld ?_
  rotate_left
  ·(intro w0 hSw;(try dsimp only at hSw);go_split_ands;go_simp;try with_reducible rfl)
  simp only [Act.put,List.setIfInBounds_toArray,List.set_cons_zero,List.set_cons_succ]
  refine wpAnyH_ready (rs:=[6]) (by kernel_rfl) (by simp) ?_
  refine ready_nth (.s (.s (.s (.s (.s (.s .z)))))) (fun K hK=>?_)
  go_simp
  refine (int_any hF _ (k3+1) _ _ _ HA4.out.ps.drew (by omega) (by rw [HA4.out.len];omega) (by rw [HA4.out.ns];exact HWF3.out) (by rw [HA4.out.ns];exact HX5.out)).mono ?_
  rintro e w5 ⟨rfl,hb5⟩
  unfold wrongAt
  go_wp2_with fail
  exact⟨rfl,IPost.bad rfl ((Below.drew (H.out.low HA4.out.mv)).trans hb5)⟩
 have HX5:=hid hx5;clear hx5
 have HR5:=hid hr5;clear hr5 HR4
 have GO5:=hid (goes_int (by omega) HWF3.out HX5.out)
 have gl5:=GO5.out.lo;have gf5:=GO5.out.few;have ge5:=GO5.out.le;have gn5:=GO5.out.len
 have sc0_0:=HB4_0.out.cell 0
 have sc0_1:=HB4_0.out.cell 1
 have sc0_2:=HB4_0.out.cell 2
 have sl0:=HB4_0.out.lt
 have sc1_1:=HB4_1.out.cell 1
 have sl1:=HB4_1.out.lt
 go_wp2_with fail
 go_region_held3 (fun w'=>w'.cell? ⟨w.heap.size,0,none⟩=some (.int .u8 (tg l k).kind)∧w'.cell? ⟨w.heap.size,1,none⟩=some (.string (ofL (tx l k)))∧w'.cell? ⟨w.heap.size,2,none⟩=some (.int .i64 (pl l en k))∧w'.cell? ⟨w1.heap.size,1,none⟩=some (.string (ofL (tx l (k+1)))))
  (first | go_keep | (go_split_ands;refine⟨?_,?_,?_,?_⟩ <;> assumption))
  (first
   | (go_at_call 203;refine (int_any hF _ (k3+1) _ _ _ HA4.out.ps.drew (by omega) (by rw [HA4.out.len];omega) (by rw [HA4.out.ns];exact HWF3.out) (by rw [HA4.out.ns];exact HX5.out)).mono ?_;rintro e w5 ⟨rfl,ext5,nv5,ha5⟩;have HA5:=hid (HA4.out.drew.trans ha5);have bx5_0:=ha5.blk HA4.out.ps.drew HB4_0.out.drew (by decide) (by decide);have dc0_0:=bx5_0.cell 0;have dc0_1:=bx5_0.cell 1;have dc0_2:=bx5_0.cell 2;have dl0:=bx5_0.lt;have HY5_0:=hid bx5_0;clear bx5_0;have bx5_1:=ha5.blk HA4.out.ps.drew HB4_1.out.drew (by decide) (by decide);have dc1_1:=bx5_1.cell 1;have dl1:=bx5_1.lt;have HY5_1:=hid bx5_1;clear bx5_1;have hz5:=HA5.out.mv.size;clear ha5)
   | (go_at_call 204;refine (add_at g tv l en iv ns5.length 40 _ _ _ (tx l (k+1)) 0 _ [hd ks3,hd ks5] _ k5 _ _ (HA5.out.ps.alloc _) (kid_two w5 (hd ks3) (hd ks5)) HA5.out.len (by omega)).mono ?_;rintro e w6 ⟨rfl,nv6,p6,m6⟩;have by5_0:=m6.blk (HY5_0.out.alloc _) (HA5.out.ps.tag HY5_0.out (by decide) (by decide)).1 (HA5.out.ps.tag HY5_0.out (by decide) (by decide)).2;have ec0_0:=by5_0.cell 0;have ec0_1:=by5_0.cell 1;have ec0_2:=by5_0.cell 2;clear by5_0;have by5_1:=m6.blk (HY5_1.out.alloc _) (HA5.out.ps.tag HY5_1.out (by decide) (by decide)).1 (HA5.out.ps.tag HY5_1.out (by decide) (by decide)).2;have ec1_1:=by5_1.cell 1;clear by5_1;have HA6:=hid ((At.alloc HA5.out _).add p6 m6 (by intro b hb;simp [Value.ownBlock] at hb;omega));clear p6 m6))
 all_goals
  obtain rfl:=add_split HR5.out
  go_wp2_with fail
  go_ret
  exact IPost.ok rfl HA6.out
end
end Go.Proofs.YthepmkjggfijoaaGreatDoor
