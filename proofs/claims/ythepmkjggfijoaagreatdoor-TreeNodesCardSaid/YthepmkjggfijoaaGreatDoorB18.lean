/-
  PARTS of the proof: TIfun.
-/
import Derived.Test.YthepmkjggfijoaaGreatDoorB16
set_option linter.all false
set_option maxRecDepth 100000
set_option maxHeartbeats 4000000
open Go.Lib (hid)
namespace Go.Proofs.YthepmkjggfijoaaGreatDoor
open Go.RowKit Mist
attribute [local go_sem] ofL_extract ofL_size ofL_get ofL_bytes ofL_append
section
variable {g:Nat} {tv:Value} {l:List Tok} {en:Int} {iv:Value} (hF:PF l)
include hF
theorem item_fun_ (m:Nat) (w:World) (k:Nat) (xs:List NV) (nv:Value) (r:Res) (h:PS g tv l en iv w (k+1) xs nv) (hk:k+1≤l.length) (hn:xs.length≤k) (hw:Wf (nds xs)) (hr:itemAt l en m .fun_ k (nds xs)=some r) :
  Calls Tryz.prog 184 #[.pointer (some ⟨g,0,none⟩),.agg #[.int .u8 (tg l k).kind,.string (ofL (tx l k)),.int .i64 (pl l en k)]] w (IPost g tv l en iv w xs nv r):=by
 have C:=fun (f:Nat) (_:f≤m) (j:Job) (hj:isFn j=true)=>parts_any (g:=g) (tv:=tv) (en:=en) (iv:=iv) hF f j hj
 have CL:=fun (f:Nat) (_:f≤m) (e:El)=>lists_any (g:=g) (tv:=tv) (en:=en) (iv:=iv) hF f e
 have H:=hid h;clear h
 have HAI:=hid ((At.refl H.out).alloc (.cells #[.int .u8 (tg l k).kind,.string (ofL (tx l k)),.int .i64 (pl l en k)] 68))
 have HBI:=hid (Blk.new w 68 #[.int .u8 (tg l k).kind,.string (ofL (tx l k)),.int .i64 (pl l en k)])
 have HW0:=hid hw;clear hw
 have hn0:(nds xs).length≤k:=by rw [nds_len];exact hn
 have hlen:=hF.len
 unfold itemAt at hr
 have HR0:=hid hr;clear hr
 go_enter Tryz.func184,Tryz.ntmps184
 obtain⟨i0,hi0,hz0,hz1,hz2⟩:=info_parts int_info
 rcases needK_split HR0.out with ⟨he1,hr1⟩ | ⟨he1,rfl⟩
 rotate_left
 ·have HE1:=hid he1;clear he1
  go_wp2_with fail
  refine (name_no g tv l en iv hF _ (k+1) _ _ HAI.out.ps (by omega) HE1.out).mono ?_
  rintro e w1 ⟨rfl,hb1⟩
  (try unfold wrongAt)
  go_wp2_with fail
  exact⟨rfl,IPost.bad rfl ((H.out.low HAI.out.mv).trans (hb1.mono (Nat.le_of_lt HAI.out.ps.lt)))⟩
 have HR1:=hid hr1;clear hr1 HR0
 have hlt1:=kd_lt he1 (by simp)
 have HE1:=hid he1;clear he1
 go_wp2_with fail
 refine (name_yes g tv l en iv hF _ (k+1) _ _ HAI.out.ps (by omega) HE1.out).mono ?_
 rintro e w1 ⟨rfl,p1,m1⟩
 have HB1_0:=hid (m1.blk HBI.out (HAI.out.ps.tag HBI.out (by decide) (by decide)).1 (HAI.out.ps.tag HBI.out (by decide) (by decide)).2)
 clear HBI
 have HA1:=hid (HAI.out.step p1 m1)
 clear HAI
 clear p1 m1
 unfold TokAt
 have HB1001_0:=hid (HB1_0.out.alloc (.cells #[.int .u8 (tg l (k+1)).kind,.string (ofL (tx l (k+1))),.int .i64 (pl l en (k+1))] 68))
 clear HB1_0
 have HN1:=hid (Blk.new w1 68 #[.int .u8 (tg l (k+1)).kind,.string (ofL (tx l (k+1))),.int .i64 (pl l en (k+1))])
 have HA1001:=hid (HA1.out.alloc (.cells #[.int .u8 (tg l (k+1)).kind,.string (ofL (tx l (k+1))),.int .i64 (pl l en (k+1))] 68))
 clear HA1
 rcases need_split HR1.out with ⟨he2,hr2⟩ | ⟨he2,rfl⟩
 rotate_left
 ·have HE2:=hid he2;clear he2
  go_wp2_with fail
  refine (need_no g tv l en iv hF [40] (.inr (by decide +kernel)) _ ((k+1)+1) _ _ HA1001.out.ps (by omega) HE2.out).mono ?_
  rintro e w2 ⟨rfl,hb2⟩
  (try unfold wrongAt)
  go_wp2_with fail
  exact⟨rfl,IPost.bad rfl ((H.out.low HA1001.out.mv).trans (hb2.mono (Nat.le_of_lt HA1001.out.ps.lt)))⟩
 have HR2:=hid hr2;clear hr2 HR1
 have hlt2:=tx_lt he2 (by simp)
 have HE2:=hid he2;clear he2
 go_wp2_with fail
 refine (need_yes g tv l en iv hF [40] (.inr (by decide +kernel)) _ ((k+1)+1) _ _ HA1001.out.ps (by omega) HE2.out).mono ?_
 rintro e w2 ⟨rfl,p2,m2⟩
 have HB2_0:=hid (m2.blk HB1001_0.out (HA1001.out.ps.tag HB1001_0.out (by decide) (by decide)).1 (HA1001.out.ps.tag HB1001_0.out (by decide) (by decide)).2)
 have HB2_1:=hid (m2.blk HN1.out (HA1001.out.ps.tag HN1.out (by decide) (by decide)).1 (HA1001.out.ps.tag HN1.out (by decide) (by decide)).2)
 clear HB1001_0 HN1
 have HA2:=hid (HA1001.out.step p2 m2)
 clear HA1001
 clear p2 m2
 rcases if_split HR2.out with ⟨he3,hr3⟩ | ⟨he3,hr3⟩
 ·skip
  have hlt3:=tx_lt he3 (by simp)
  have HE3:=hid he3;clear he3
  have HR3:=hid hr3;clear hr3
  go_wp2_with fail
  refine (is_any [41] (.inr (by decide +kernel)) g tv l en iv _ (((k+1)+1)+1) _ _ (HA2.out.alloc _).ps (by omega) hlen hF.kind _ _ 9 (0,0) (heap_alloc_new _ _) true (by simp [HE3.out])).mono ?_
  rintro e w4 ⟨rfl,hb4⟩
  have HB4_0:=hid ((HB2_0.out.alloc (.cells #[.string (ofL [41])] 9)).below hb4 (HB2_0.out.alloc (.cells #[.string (ofL [41])] 9)).lt)
  have HB4_1:=hid ((HB2_1.out.alloc (.cells #[.string (ofL [41])] 9)).below hb4 (HB2_1.out.alloc (.cells #[.string (ofL [41])] 9)).lt)
  clear HB2_0 HB2_1
  have HA4:=hid ((HA2.out.alloc (.cells #[.string (ofL [41])] 9)).below hb4)
  clear HA2
  clear hb4
  have HVN:=hid (show w4.ownsRow w.heap.size 3 1 (.slice none 0 0) 0 (intCells []) from World.ownsRow_nil _ _ _ _)
  have HQN:=hid (show ([]:List Int).length=0 from rfl)
  have HNEN:=hid (ne_nil (ext:=[]))
  have hru:=HR3.out;unfold funTail at hru;have HRU5:=hid hru;clear hru
  rcases need_split HRU5.out with ⟨he6,hr6⟩ | ⟨he6,rfl⟩
  rotate_left
  ·have HE6:=hid he6;clear he6
   go_wp2_with fail
   refine (need_no g tv l en iv hF [41] (.inr (by decide +kernel)) _ (((k+1)+1)+1) _ _ HA4.out.ps (by omega) HE6.out).mono ?_
   rintro e w6 ⟨rfl,hb6⟩
   (try unfold wrongAt)
   go_wp2_with fail
   exact⟨rfl,IPost.bad rfl ((H.out.low HA4.out.mv).trans (hb6.mono (Nat.le_of_lt HA4.out.ps.lt)))⟩
  have HR6:=hid hr6;clear hr6 HRU5
  have hlt6:=tx_lt he6 (by simp)
  have HE6:=hid he6;clear he6
  go_wp2_with fail
  refine (need_yes g tv l en iv hF [41] (.inr (by decide +kernel)) _ (((k+1)+1)+1) _ _ HA4.out.ps (by omega) HE6.out).mono ?_
  rintro e w6 ⟨rfl,p6,m6⟩
  have HB6_0:=hid (m6.blk HB4_0.out (HA4.out.ps.tag HB4_0.out (by decide) (by decide)).1 (HA4.out.ps.tag HB4_0.out (by decide) (by decide)).2)
  have HB6_1:=hid (m6.blk HB4_1.out (HA4.out.ps.tag HB4_1.out (by decide) (by decide)).1 (HA4.out.ps.tag HB4_1.out (by decide) (by decide)).2)
  clear HB4_0 HB4_1
  have HV6_0:=hid (HA4.out.ps.row_mv m6 HVN.out (by decide) (by decide))
  clear HVN
  have HA6:=hid (HA4.out.step p6 m6)
  clear HA4
  clear p6 m6
  rcases need_split HR6.out with ⟨he7,hr7⟩ | ⟨he7,rfl⟩
  rotate_left
  ·have HE7:=hid he7;clear he7
   go_wp2_with fail
   refine (need_no g tv l en iv hF [58] (.inr (by decide +kernel)) _ ((((k+1)+1)+1)+1) _ _ HA6.out.ps (by omega) HE7.out).mono ?_
   rintro e w7 ⟨rfl,hb7⟩
   (try unfold wrongAt)
   go_wp2_with fail
   exact⟨rfl,IPost.bad rfl ((H.out.low HA6.out.mv).trans (hb7.mono (Nat.le_of_lt HA6.out.ps.lt)))⟩
  have HR7:=hid hr7;clear hr7 HR6
  have hlt7:=tx_lt he7 (by simp)
  have HE7:=hid he7;clear he7
  go_wp2_with fail
  refine (need_yes g tv l en iv hF [58] (.inr (by decide +kernel)) _ ((((k+1)+1)+1)+1) _ _ HA6.out.ps (by omega) HE7.out).mono ?_
  rintro e w7 ⟨rfl,p7,m7⟩
  have HB7_0:=hid (m7.blk HB6_0.out (HA6.out.ps.tag HB6_0.out (by decide) (by decide)).1 (HA6.out.ps.tag HB6_0.out (by decide) (by decide)).2)
  have HB7_1:=hid (m7.blk HB6_1.out (HA6.out.ps.tag HB6_1.out (by decide) (by decide)).1 (HA6.out.ps.tag HB6_1.out (by decide) (by decide)).2)
  clear HB6_0 HB6_1
  have HV7_0:=hid (HA6.out.ps.row_mv m7 HV6_0.out (by decide) (by decide))
  clear HV6_0
  have HA7:=hid (HA6.out.step p7 m7)
  clear HA6
  clear p7 m7
  rcases thn_split HR7.out with ⟨ks8,k8,ns8,hx8,hr8⟩ | ⟨kb8,hx8,rfl⟩
  rotate_left
  ·have HX8:=hid hx8;clear hx8
   go_wp2_with fail
   refine (C m (Nat.le_refl _) .typ rfl _ (((((k+1)+1)+1)+1)+1) _ _ _ HA7.out.ps (by omega) (by rw [HA7.out.len];omega) (by rw [HA7.out.ns];exact HW0.out) (by rw [HA7.out.ns];exact HX8.out)).mono ?_
   rintro e w8 ⟨rfl,hb8⟩
   (try unfold wrongAt)
   go_wp2_with fail
   exact⟨rfl,IPost.bad rfl ((H.out.low HA7.out.mv).trans hb8)⟩
  have HX8:=hid hx8;clear hx8
  have HR8:=hid hr8;clear hr8 HR7
  go_wp2_with fail
  refine (C m (Nat.le_refl _) .typ rfl _ (((((k+1)+1)+1)+1)+1) _ _ _ HA7.out.ps (by omega) (by rw [HA7.out.len];omega) (by rw [HA7.out.ns];exact HW0.out) (by rw [HA7.out.ns];exact HX8.out)).mono ?_
  rintro e w8 ⟨rfl,ext8,nv8,ha8⟩
  have GO8:=hid (run_goes HX8.out (by omega) HW0.out (Ids.nil _) (by simp))
  have gl8:=GO8.out.lo;have gf8:=GO8.out.few;have ge8:=GO8.out.le;have gn8:=GO8.out.len
  simp only [Job.reads] at gl8
  have HB8_0:=hid (ha8.blk HA7.out.ps HB7_0.out (by decide) (by decide))
  have HB8_1:=hid (ha8.blk HA7.out.ps HB7_1.out (by decide) (by decide))
  clear HB7_0 HB7_1
  have HNE8:=hid (ne_snoc HNEN.out ha8.fresh (fun b hb=>(HV7_0.out.lt b hb).2));clear HNEN
  have HV8_0:=hid (HA7.out.ps.row_mv ha8.mv HV7_0.out (by decide) (by decide))
  clear HV7_0
  have HWF8:=hid GO8.out.wf
  have HA8:=hid (HA7.out.trans ha8)
  clear HA7
  clear ha8
  go_wp2_with (at_builtin
               refine wpList_append_lies _ rfl (.tmp 22) (.tmp 25) 24 rfl w.heap.size 3 i0 _ 1 8 Tryz.underlying24 hi0 hz0 hz1 hz2 rfl (by decide) _ 0 (intCells []) rfl
                 (HV8_0.out.alloc _) ⟨w8.heap.size,0,none⟩ 1 1 [.int .i64 (hd ks8)] rfl rfl (cells_new _ _ _) (by intro u hu;simp at hu;subst hu;rfl) (by omega) (by simp only [maxLen];omega) (by omega) (by have:=HA8.out.mv.size;simp;omega) (w8.heap.size+1) (by simp) ?_
               intro gg9 cap9 w9 hown9 hg9 hat9 hgl9)
  have HNE9:=hid (ne_grown HA8.out.ps HNE8.out hat9 (0+1) cap9);clear hat9
  have HB9_0:=hid (blk_grown HB8_0.out HV8_0.out hg9 (by decide))
  have HB9_1:=hid (blk_grown HB8_1.out HV8_0.out hg9 (by decide))
  have HA9:=hid ((HA8.out.alloc (.cells #[.int .i64 (hd ks8)] 3)).grown H.out HV8_0.out (by decide) hg9 HNE8.out)
  have HV9:=hid (show w9.ownsRow w.heap.size 3 1 (.slice (some ⟨gg9,0,none⟩) (0+1) cap9) (0+1) (intCells ([] ++ [hd ks8])) by rw [intCells_append];exact hown9);clear hown9
  have HQ9:=hid (show ([] ++ [hd ks8]).length=0+1 by rw [List.length_append,HQN.out];rfl)
  clear hg9 hgl9
  rcases if_split HR8.out with ⟨he10,hr10⟩ | ⟨he10,hr10⟩
  ·skip
   have hlt10:=tx_lt he10 (by simp)
   have HE10:=hid he10;clear he10
   have HR10:=hid hr10;clear hr10
   go_wp2_with fail
   refine (has_yes g tv l en iv hF [117,112,116,111] (.inl (by decide +kernel)) _ k8 _ _ HA9.out.ps (by omega) HE10.out).mono ?_
   rintro e w11 ⟨rfl,p11,m11⟩
   have HB11_0:=hid (m11.blk HB9_0.out (HA9.out.ps.tag HB9_0.out (by decide) (by decide)).1 (HA9.out.ps.tag HB9_0.out (by decide) (by decide)).2)
   have HB11_1:=hid (m11.blk HB9_1.out (HA9.out.ps.tag HB9_1.out (by decide) (by decide)).1 (HA9.out.ps.tag HB9_1.out (by decide) (by decide)).2)
   clear HB9_0 HB9_1
   have HV11_0:=hid (HA9.out.ps.row_mv m11 HV9.out (by decide) (by decide))
   clear HV9
   have HA11:=hid (HA9.out.step p11 m11)
   clear HA9
   clear p11 m11
   go_wp2_with fail
   refine (look_any g tv l en iv _ (k8+1) _ _ HA11.out.ps (by omega) hlen).mono ?_
   rintro e w12 ⟨rfl,hb12⟩
   have HB12_0:=hid (HB11_0.out.below hb12 HB11_0.out.lt)
   have HB12_1:=hid (HB11_1.out.below hb12 HB11_1.out.lt)
   clear HB11_0 HB11_1
   have HV12_0:=hid (own_below HV11_0.out hb12)
   clear HV11_0
   have HA12:=hid (HA11.out.below hb12)
   clear HA11
   clear hb12
   rcases if_split HR10.out with ⟨he13,hr13⟩ | ⟨he13,hr13⟩
   ·skip
    have hlt13:=tx_lt he13 (by simp)
    have HE13:=hid he13;clear he13
    have HR13:=hid hr13;clear hr13
    have q0:(tx l (k8+1) == [48])=true:=text_is _ [48] HE13.out
    have tf1:=tok_field1
    obtain rfl:Res.bad (k8+1)=r:=Option.some.inj HR13.out
    go_wp2_with fail
    refine (fail_any g tv l en iv _ (k8+1) _ _ HA12.out.ps (by omega) hlen).mono ?_
    rintro e wq ⟨rfl,hbq⟩
    (try unfold wrongAt)
    go_wp2_with fail
    exact⟨rfl,IPost.bad rfl ((H.out.low HA12.out.mv).trans (hbq.mono (Nat.le_of_lt HA12.out.ps.lt)))⟩
   ·skip
    have HE13:=hid he13;clear he13
    have HR13:=hid hr13;clear hr13
    have q0:(tx l (k8+1) == [48])=false:=text_isnt _ [48] HE13.out
    have tf1:=tok_field1
    go_wp2_with fail
    clear q0
    rcases needK_split HR13.out with ⟨he14,hr14⟩ | ⟨he14,rfl⟩
    rotate_left
    ·have HE14:=hid he14;clear he14
     refine (number_no g tv l en iv hF _ (k8+1) _ _ HA12.out.ps (by omega) HE14.out).mono ?_
     rintro e w14 ⟨rfl,hb14⟩
     (try unfold wrongAt)
     go_wp2_with fail
     exact⟨rfl,IPost.bad rfl ((H.out.low HA12.out.mv).trans (hb14.mono (Nat.le_of_lt HA12.out.ps.lt)))⟩
    have HR14:=hid hr14;clear hr14 HR13
    have hlt14:=kd_lt he14 (by simp)
    have HE14:=hid he14;clear he14
    refine (number_yes g tv l en iv hF _ (k8+1) _ _ HA12.out.ps (by omega) HE14.out).mono ?_
    rintro e w14 ⟨rfl,p14,m14⟩
    have HB14_0:=hid (m14.blk HB12_0.out (HA12.out.ps.tag HB12_0.out (by decide) (by decide)).1 (HA12.out.ps.tag HB12_0.out (by decide) (by decide)).2)
    have HB14_1:=hid (m14.blk HB12_1.out (HA12.out.ps.tag HB12_1.out (by decide) (by decide)).1 (HA12.out.ps.tag HB12_1.out (by decide) (by decide)).2)
    clear HB12_0 HB12_1
    have HV14_0:=hid (HA12.out.ps.row_mv m14 HV12_0.out (by decide) (by decide))
    clear HV12_0
    have HA14:=hid (HA12.out.step p14 m14)
    clear HA12
    clear p14 m14
    unfold TokAt
    have hru:=HR14.out;unfold funRest at hru;have HRU15:=hid hru;clear hru
    rcases need_split HRU15.out with ⟨he16,hr16⟩ | ⟨he16,rfl⟩
    rotate_left
    ·have HE16:=hid he16;clear he16
     go_wp2_with fail
     refine (need_no g tv l en iv hF [61] (.inr (by decide +kernel)) _ ((k8+1)+1) _ _ HA14.out.ps (by omega) HE16.out).mono ?_
     rintro e w16 ⟨rfl,hb16⟩
     (try unfold wrongAt)
     go_wp2_with fail
     exact⟨rfl,IPost.bad rfl ((H.out.low HA14.out.mv).trans (hb16.mono (Nat.le_of_lt HA14.out.ps.lt)))⟩
    have HR16:=hid hr16;clear hr16 HRU15
    have hlt16:=tx_lt he16 (by simp)
    have HE16:=hid he16;clear he16
    go_wp2_with fail
    refine (need_yes g tv l en iv hF [61] (.inr (by decide +kernel)) _ ((k8+1)+1) _ _ HA14.out.ps (by omega) HE16.out).mono ?_
    rintro e w16 ⟨rfl,p16,m16⟩
    have HB16_0:=hid (m16.blk HB14_0.out (HA14.out.ps.tag HB14_0.out (by decide) (by decide)).1 (HA14.out.ps.tag HB14_0.out (by decide) (by decide)).2)
    have HB16_1:=hid (m16.blk HB14_1.out (HA14.out.ps.tag HB14_1.out (by decide) (by decide)).1 (HA14.out.ps.tag HB14_1.out (by decide) (by decide)).2)
    clear HB14_0 HB14_1
    have HV16_0:=hid (HA14.out.ps.row_mv m16 HV14_0.out (by decide) (by decide))
    clear HV14_0
    have HA16:=hid (HA14.out.step p16 m16)
    clear HA14
    clear p16 m16
    rcases thn_split HR16.out with ⟨ks17,k17,ns17,hx17,hr17⟩ | ⟨kb17,hx17,rfl⟩
    rotate_left
    ·have HX17:=hid hx17;clear hx17
     go_wp2_with fail
     refine (C m (Nat.le_refl _) .expr rfl _ (((k8+1)+1)+1) _ _ _ HA16.out.ps (by omega) (by rw [HA16.out.len];omega) (by rw [HA16.out.ns];exact HWF8.out) (by rw [HA16.out.ns];exact HX17.out)).mono ?_
     rintro e w17 ⟨rfl,hb17⟩
     (try unfold wrongAt)
     go_wp2_with fail
     exact⟨rfl,IPost.bad rfl ((H.out.low HA16.out.mv).trans hb17)⟩
    have HX17:=hid hx17;clear hx17
    have HR17:=hid hr17;clear hr17 HR16
    go_wp2_with fail
    refine (C m (Nat.le_refl _) .expr rfl _ (((k8+1)+1)+1) _ _ _ HA16.out.ps (by omega) (by rw [HA16.out.len];omega) (by rw [HA16.out.ns];exact HWF8.out) (by rw [HA16.out.ns];exact HX17.out)).mono ?_
    rintro e w17 ⟨rfl,ext17,nv17,ha17⟩
    have GO17:=hid (run_goes HX17.out (by omega) HWF8.out (Ids.nil _) (by simp))
    have gl17:=GO17.out.lo;have gf17:=GO17.out.few;have ge17:=GO17.out.le;have gn17:=GO17.out.len
    simp only [Job.reads] at gl17
    have HB17_0:=hid (ha17.blk HA16.out.ps HB16_0.out (by decide) (by decide))
    have HB17_1:=hid (ha17.blk HA16.out.ps HB16_1.out (by decide) (by decide))
    clear HB16_0 HB16_1
    have HNE17:=hid (ne_snoc HNE9.out ha17.fresh (fun b hb=>(HV16_0.out.lt b hb).2));clear HNE9
    have HV17_0:=hid (HA16.out.ps.row_mv ha17.mv HV16_0.out (by decide) (by decide))
    clear HV16_0
    have HWF17:=hid GO17.out.wf
    have HA17:=hid (HA16.out.trans ha17)
    clear HA16
    clear ha17
    go_wp2_with (at_builtin
                 refine wpList_append_lies _ rfl (.tmp 42) (.tmp 45) 24 rfl w.heap.size 3 i0 _ 1 8 Tryz.underlying24 hi0 hz0 hz1 hz2 rfl (by decide) _ (0+1) (intCells ([] ++ [hd ks8])) rfl
                   (HV17_0.out.alloc _) ⟨w17.heap.size,0,none⟩ 1 1 [.int .i64 (hd ks17)] rfl rfl (cells_new _ _ _) (by intro u hu;simp at hu;subst hu;rfl) (by omega) (by simp only [maxLen];omega) (by omega) (by have:=HA17.out.mv.size;simp;omega) (w17.heap.size+1) (by simp) ?_
                 intro gg18 cap18 w18 hown18 hg18 hat18 hgl18;have bz0:=blk_grown HB17_0.out HV17_0.out hg18 (by decide);have sz0_0:=bz0.cell 0;have sz0_1:=bz0.cell 1;have sz0_2:=bz0.cell 2;have szl0:=bz0.lt;have bz1:=blk_grown HB17_1.out HV17_0.out hg18 (by decide);have sz1_1:=bz1.cell 1;have szl1:=bz1.lt)
    have HNE18:=hid (ne_grown HA17.out.ps HNE17.out hat18 ((0+1)+1) cap18);clear hat18
    have HB18_0:=hid (blk_grown HB17_0.out HV17_0.out hg18 (by decide))
    have HB18_1:=hid (blk_grown HB17_1.out HV17_0.out hg18 (by decide))
    have HA18:=hid ((HA17.out.alloc (.cells #[.int .i64 (hd ks17)] 3)).grown H.out HV17_0.out (by decide) hg18 HNE17.out)
    have HV18:=hid (show w18.ownsRow w.heap.size 3 1 (.slice (some ⟨gg18,0,none⟩) ((0+1)+1) cap18) ((0+1)+1) (intCells (([] ++ [hd ks8]) ++ [hd ks17])) by rw [intCells_append];exact hown18);clear hown18
    have HQ18:=hid (show (([] ++ [hd ks8]) ++ [hd ks17]).length=(0+1)+1 by rw [List.length_append,HQ9.out];rfl)
    clear hg18 hgl18
    obtain rfl:=add_split HR17.out
    have sc0_0:=HB18_0.out.cell 0
    have sc0_1:=HB18_0.out.cell 1
    have sc0_2:=HB18_0.out.cell 2
    have sl0:=HB18_0.out.lt
    have sc1_1:=HB18_1.out.cell 1
    have sl1:=HB18_1.out.lt
    refine (add_at g tv l en iv ns17.length 42 _ _ _ (tx l (k+1)) ((numOf (tx l (k8+1)):Nat):Int) _ (([] ++ [hd ks8]) ++ [hd ks17]) _ k17 _ _ HA18.out.ps (kid_of HQ18.out HV18.out) HA18.out.len (by omega)).mono ?_
    rintro e w19 ⟨rfl,nv19,p19,m19⟩
    have HAF:=hid (HA18.out.add p19 m19 (fun b hb=>(HV18.out.lt b hb).1));clear p19 m19
    go_wp2_with fail
    go_ret
    exact IPost.ok rfl HAF.out
  ·skip
   have HE10:=hid he10;clear he10
   have HR10:=hid hr10;clear hr10
   go_wp2_with fail
   refine (has_no g tv l en iv hF [117,112,116,111] (.inl (by decide +kernel)) _ k8 _ _ HA9.out.ps (by omega) HE10.out).mono ?_
   rintro e w20 ⟨rfl,hb20⟩
   have HB20_0:=hid (HB9_0.out.below hb20 HB9_0.out.lt)
   have HB20_1:=hid (HB9_1.out.below hb20 HB9_1.out.lt)
   clear HB9_0 HB9_1
   have HV20_0:=hid (own_below HV9.out hb20)
   clear HV9
   have HA20:=hid (HA9.out.below hb20)
   clear HA9
   clear hb20
   have hru:=HR10.out;unfold funRest at hru;have HRU21:=hid hru;clear hru
   rcases need_split HRU21.out with ⟨he22,hr22⟩ | ⟨he22,rfl⟩
   rotate_left
   ·have HE22:=hid he22;clear he22
    go_wp2_with fail
    refine (need_no g tv l en iv hF [61] (.inr (by decide +kernel)) _ k8 _ _ HA20.out.ps (by omega) HE22.out).mono ?_
    rintro e w22 ⟨rfl,hb22⟩
    (try unfold wrongAt)
    go_wp2_with fail
    exact⟨rfl,IPost.bad rfl ((H.out.low HA20.out.mv).trans (hb22.mono (Nat.le_of_lt HA20.out.ps.lt)))⟩
   have HR22:=hid hr22;clear hr22 HRU21
   have hlt22:=tx_lt he22 (by simp)
   have HE22:=hid he22;clear he22
   go_wp2_with fail
   refine (need_yes g tv l en iv hF [61] (.inr (by decide +kernel)) _ k8 _ _ HA20.out.ps (by omega) HE22.out).mono ?_
   rintro e w22 ⟨rfl,p22,m22⟩
   have HB22_0:=hid (m22.blk HB20_0.out (HA20.out.ps.tag HB20_0.out (by decide) (by decide)).1 (HA20.out.ps.tag HB20_0.out (by decide) (by decide)).2)
   have HB22_1:=hid (m22.blk HB20_1.out (HA20.out.ps.tag HB20_1.out (by decide) (by decide)).1 (HA20.out.ps.tag HB20_1.out (by decide) (by decide)).2)
   clear HB20_0 HB20_1
   have HV22_0:=hid (HA20.out.ps.row_mv m22 HV20_0.out (by decide) (by decide))
   clear HV20_0
   have HA22:=hid (HA20.out.step p22 m22)
   clear HA20
   clear p22 m22
   rcases thn_split HR22.out with ⟨ks23,k23,ns23,hx23,hr23⟩ | ⟨kb23,hx23,rfl⟩
   rotate_left
   ·have HX23:=hid hx23;clear hx23
    go_wp2_with fail
    refine (C m (Nat.le_refl _) .expr rfl _ (k8+1) _ _ _ HA22.out.ps (by omega) (by rw [HA22.out.len];omega) (by rw [HA22.out.ns];exact HWF8.out) (by rw [HA22.out.ns];exact HX23.out)).mono ?_
    rintro e w23 ⟨rfl,hb23⟩
    (try unfold wrongAt)
    go_wp2_with fail
    exact⟨rfl,IPost.bad rfl ((H.out.low HA22.out.mv).trans hb23)⟩
   have HX23:=hid hx23;clear hx23
   have HR23:=hid hr23;clear hr23 HR22
   go_wp2_with fail
   refine (C m (Nat.le_refl _) .expr rfl _ (k8+1) _ _ _ HA22.out.ps (by omega) (by rw [HA22.out.len];omega) (by rw [HA22.out.ns];exact HWF8.out) (by rw [HA22.out.ns];exact HX23.out)).mono ?_
   rintro e w23 ⟨rfl,ext23,nv23,ha23⟩
   have GO23:=hid (run_goes HX23.out (by omega) HWF8.out (Ids.nil _) (by simp))
   have gl23:=GO23.out.lo;have gf23:=GO23.out.few;have ge23:=GO23.out.le;have gn23:=GO23.out.len
   simp only [Job.reads] at gl23
   have HB23_0:=hid (ha23.blk HA22.out.ps HB22_0.out (by decide) (by decide))
   have HB23_1:=hid (ha23.blk HA22.out.ps HB22_1.out (by decide) (by decide))
   clear HB22_0 HB22_1
   have HNE23:=hid (ne_snoc HNE9.out ha23.fresh (fun b hb=>(HV22_0.out.lt b hb).2));clear HNE9
   have HV23_0:=hid (HA22.out.ps.row_mv ha23.mv HV22_0.out (by decide) (by decide))
   clear HV22_0
   have HWF23:=hid GO23.out.wf
   have HA23:=hid (HA22.out.trans ha23)
   clear HA22
   clear ha23
   go_wp2_with (at_builtin
                refine wpList_append_lies _ rfl (.tmp 42) (.tmp 45) 24 rfl w.heap.size 3 i0 _ 1 8 Tryz.underlying24 hi0 hz0 hz1 hz2 rfl (by decide) _ (0+1) (intCells ([] ++ [hd ks8])) rfl
                  (HV23_0.out.alloc _) ⟨w23.heap.size,0,none⟩ 1 1 [.int .i64 (hd ks23)] rfl rfl (cells_new _ _ _) (by intro u hu;simp at hu;subst hu;rfl) (by omega) (by simp only [maxLen];omega) (by omega) (by have:=HA23.out.mv.size;simp;omega) (w23.heap.size+1) (by simp) ?_
                intro gg24 cap24 w24 hown24 hg24 hat24 hgl24;have bz0:=blk_grown HB23_0.out HV23_0.out hg24 (by decide);have sz0_0:=bz0.cell 0;have sz0_1:=bz0.cell 1;have sz0_2:=bz0.cell 2;have szl0:=bz0.lt;have bz1:=blk_grown HB23_1.out HV23_0.out hg24 (by decide);have sz1_1:=bz1.cell 1;have szl1:=bz1.lt)
   have HNE24:=hid (ne_grown HA23.out.ps HNE23.out hat24 ((0+1)+1) cap24);clear hat24
   have HB24_0:=hid (blk_grown HB23_0.out HV23_0.out hg24 (by decide))
   have HB24_1:=hid (blk_grown HB23_1.out HV23_0.out hg24 (by decide))
   have HA24:=hid ((HA23.out.alloc (.cells #[.int .i64 (hd ks23)] 3)).grown H.out HV23_0.out (by decide) hg24 HNE23.out)
   have HV24:=hid (show w24.ownsRow w.heap.size 3 1 (.slice (some ⟨gg24,0,none⟩) ((0+1)+1) cap24) ((0+1)+1) (intCells (([] ++ [hd ks8]) ++ [hd ks23])) by rw [intCells_append];exact hown24);clear hown24
   have HQ24:=hid (show (([] ++ [hd ks8]) ++ [hd ks23]).length=(0+1)+1 by rw [List.length_append,HQ9.out];rfl)
   clear hg24 hgl24
   obtain rfl:=add_split HR23.out
   have sc0_0:=HB24_0.out.cell 0
   have sc0_1:=HB24_0.out.cell 1
   have sc0_2:=HB24_0.out.cell 2
   have sl0:=HB24_0.out.lt
   have sc1_1:=HB24_1.out.cell 1
   have sl1:=HB24_1.out.lt
   refine (add_at g tv l en iv ns23.length 42 _ _ _ (tx l (k+1)) 0 _ (([] ++ [hd ks8]) ++ [hd ks23]) _ k23 _ _ HA24.out.ps (kid_of HQ24.out HV24.out) HA24.out.len (by omega)).mono ?_
   rintro e w25 ⟨rfl,nv25,p25,m25⟩
   have HAF:=hid (HA24.out.add p25 m25 (fun b hb=>(HV24.out.lt b hb).1));clear p25 m25
   go_wp2_with fail
   go_ret
   exact IPost.ok rfl HAF.out
 ·skip
  have HE3:=hid he3;clear he3
  have HR3:=hid hr3;clear hr3
  go_wp2_with fail
  refine (is_any [41] (.inr (by decide +kernel)) g tv l en iv _ (((k+1)+1)+1) _ _ (HA2.out.alloc _).ps (by omega) hlen hF.kind _ _ 9 (0,0) (heap_alloc_new _ _) false (by simp [HE3.out])).mono ?_
  rintro e w26 ⟨rfl,hb26⟩
  have HB26_0:=hid ((HB2_0.out.alloc (.cells #[.string (ofL [41])] 9)).below hb26 (HB2_0.out.alloc (.cells #[.string (ofL [41])] 9)).lt)
  have HB26_1:=hid ((HB2_1.out.alloc (.cells #[.string (ofL [41])] 9)).below hb26 (HB2_1.out.alloc (.cells #[.string (ofL [41])] 9)).lt)
  clear HB2_0 HB2_1
  have HA26:=hid ((HA2.out.alloc (.cells #[.string (ofL [41])] 9)).below hb26)
  clear HA2
  clear hb26
  rcases thn_split HR3.out with ⟨ks27,k27,ns27,hx27,hr27⟩ | ⟨kb27,hx27,rfl⟩
  rotate_left
  ·have HX27:=hid hx27;clear hx27
   go_wp2_with fail
   refine (CL m (Nat.le_refl _) .param _ (((k+1)+1)+1) _ _ _ HA26.out.ps (by omega) (by rw [HA26.out.len];omega) (by rw [HA26.out.ns];exact HW0.out) (by rw [HA26.out.ns];exact HX27.out)).mono ?_
   rintro e w27 ⟨rfl,hb27⟩
   (try unfold wrongAt)
   go_wp2_with fail
   exact⟨rfl,IPost.bad rfl ((H.out.low HA26.out.mv).trans hb27)⟩
  have HX27:=hid hx27;clear hx27
  have HR27:=hid hr27;clear hr27 HR3
  go_wp2_with fail
  refine (CL m (Nat.le_refl _) .param _ (((k+1)+1)+1) _ _ _ HA26.out.ps (by omega) (by rw [HA26.out.len];omega) (by rw [HA26.out.ns];exact HW0.out) (by rw [HA26.out.ns];exact HX27.out)).mono ?_
  rintro e w27 ⟨v27,ext27,nv27,rfl,ho27,ha27,hd27⟩
  have HV27:=hid (own_base (base':=w.heap.size) ho27 (fun b hb=>Nat.le_trans HA26.out.mv.size (ho27.lt b hb).1));clear ho27
  have GO27:=hid (run_goes HX27.out (by omega) HW0.out (Ids.nil _) (by simp))
  have gl27:=GO27.out.lo;have gf27:=GO27.out.few;have ge27:=GO27.out.le;have gn27:=GO27.out.len
  simp only [Job.reads] at gl27
  have HB27_0:=hid (ha27.blk HA26.out.ps HB26_0.out (by decide) (by decide))
  have HB27_1:=hid (ha27.blk HA26.out.ps HB26_1.out (by decide) (by decide))
  clear HB26_0 HB26_1
  have HWF27:=hid GO27.out.wf
  have HA27:=hid (HA26.out.trans ha27)
  clear HA26
  clear ha27
  have HNE27:=hid (show ∀ x ∈ [] ++ ext27,x.2.ownBlock=none∨x.2.ownBlock ≠ v27.ownBlock from hd27);clear hd27
  have hqb27:=list_len (by omega) HW0.out HX27.out
  obtain⟨q27,hq27⟩:∃ q,q=ks27.length:=⟨_,rfl⟩
  rw [← hq27] at HV27 hqb27
  have HQ27:=hid hq27.symm;clear hq27
  obtain⟨A27,c27,rfl⟩:=own_form HV27.out
  have hru:=HR27.out;unfold funTail at hru;have HRU28:=hid hru;clear hru
  rcases need_split HRU28.out with ⟨he29,hr29⟩ | ⟨he29,rfl⟩
  rotate_left
  ·have HE29:=hid he29;clear he29
   go_wp2_with fail
   refine (need_no g tv l en iv hF [41] (.inr (by decide +kernel)) _ k27 _ _ HA27.out.ps (by omega) HE29.out).mono ?_
   rintro e w29 ⟨rfl,hb29⟩
   (try unfold wrongAt)
   go_wp2_with fail
   exact⟨rfl,IPost.bad rfl ((H.out.low HA27.out.mv).trans (hb29.mono (Nat.le_of_lt HA27.out.ps.lt)))⟩
  have HR29:=hid hr29;clear hr29 HRU28
  have hlt29:=tx_lt he29 (by simp)
  have HE29:=hid he29;clear he29
  go_wp2_with fail
  refine (need_yes g tv l en iv hF [41] (.inr (by decide +kernel)) _ k27 _ _ HA27.out.ps (by omega) HE29.out).mono ?_
  rintro e w29 ⟨rfl,p29,m29⟩
  have HB29_0:=hid (m29.blk HB27_0.out (HA27.out.ps.tag HB27_0.out (by decide) (by decide)).1 (HA27.out.ps.tag HB27_0.out (by decide) (by decide)).2)
  have HB29_1:=hid (m29.blk HB27_1.out (HA27.out.ps.tag HB27_1.out (by decide) (by decide)).1 (HA27.out.ps.tag HB27_1.out (by decide) (by decide)).2)
  clear HB27_0 HB27_1
  have HV29_0:=hid (HA27.out.ps.row_mv m29 HV27.out (by decide) (by decide))
  clear HV27
  have HA29:=hid (HA27.out.step p29 m29)
  clear HA27
  clear p29 m29
  rcases need_split HR29.out with ⟨he30,hr30⟩ | ⟨he30,rfl⟩
  rotate_left
  ·have HE30:=hid he30;clear he30
   go_wp2_with fail
   refine (need_no g tv l en iv hF [58] (.inr (by decide +kernel)) _ (k27+1) _ _ HA29.out.ps (by omega) HE30.out).mono ?_
   rintro e w30 ⟨rfl,hb30⟩
   (try unfold wrongAt)
   go_wp2_with fail
   exact⟨rfl,IPost.bad rfl ((H.out.low HA29.out.mv).trans (hb30.mono (Nat.le_of_lt HA29.out.ps.lt)))⟩
  have HR30:=hid hr30;clear hr30 HR29
  have hlt30:=tx_lt he30 (by simp)
  have HE30:=hid he30;clear he30
  go_wp2_with fail
  refine (need_yes g tv l en iv hF [58] (.inr (by decide +kernel)) _ (k27+1) _ _ HA29.out.ps (by omega) HE30.out).mono ?_
  rintro e w30 ⟨rfl,p30,m30⟩
  have HB30_0:=hid (m30.blk HB29_0.out (HA29.out.ps.tag HB29_0.out (by decide) (by decide)).1 (HA29.out.ps.tag HB29_0.out (by decide) (by decide)).2)
  have HB30_1:=hid (m30.blk HB29_1.out (HA29.out.ps.tag HB29_1.out (by decide) (by decide)).1 (HA29.out.ps.tag HB29_1.out (by decide) (by decide)).2)
  clear HB29_0 HB29_1
  have HV30_0:=hid (HA29.out.ps.row_mv m30 HV29_0.out (by decide) (by decide))
  clear HV29_0
  have HA30:=hid (HA29.out.step p30 m30)
  clear HA29
  clear p30 m30
  rcases thn_split HR30.out with ⟨ks31,k31,ns31,hx31,hr31⟩ | ⟨kb31,hx31,rfl⟩
  rotate_left
  ·have HX31:=hid hx31;clear hx31
   go_wp2_with fail
   refine (C m (Nat.le_refl _) .typ rfl _ ((k27+1)+1) _ _ _ HA30.out.ps (by omega) (by rw [HA30.out.len];omega) (by rw [HA30.out.ns];exact HWF27.out) (by rw [HA30.out.ns];exact HX31.out)).mono ?_
   rintro e w31 ⟨rfl,hb31⟩
   (try unfold wrongAt)
   go_wp2_with fail
   exact⟨rfl,IPost.bad rfl ((H.out.low HA30.out.mv).trans hb31)⟩
  have HX31:=hid hx31;clear hx31
  have HR31:=hid hr31;clear hr31 HR30
  go_wp2_with fail
  refine (C m (Nat.le_refl _) .typ rfl _ ((k27+1)+1) _ _ _ HA30.out.ps (by omega) (by rw [HA30.out.len];omega) (by rw [HA30.out.ns];exact HWF27.out) (by rw [HA30.out.ns];exact HX31.out)).mono ?_
  rintro e w31 ⟨rfl,ext31,nv31,ha31⟩
  have GO31:=hid (run_goes HX31.out (by omega) HWF27.out (Ids.nil _) (by simp))
  have gl31:=GO31.out.lo;have gf31:=GO31.out.few;have ge31:=GO31.out.le;have gn31:=GO31.out.len
  simp only [Job.reads] at gl31
  have HB31_0:=hid (ha31.blk HA30.out.ps HB30_0.out (by decide) (by decide))
  have HB31_1:=hid (ha31.blk HA30.out.ps HB30_1.out (by decide) (by decide))
  clear HB30_0 HB30_1
  have HNE31:=hid (ne_snoc HNE27.out ha31.fresh (fun b hb=>(HV30_0.out.lt b hb).2));clear HNE27
  have HV31_0:=hid (HA30.out.ps.row_mv ha31.mv HV30_0.out (by decide) (by decide))
  clear HV30_0
  have HWF31:=hid GO31.out.wf
  have HA31:=hid (HA30.out.trans ha31)
  clear HA30
  clear ha31
  go_wp2_with (at_builtin
               refine wpList_append_lies _ rfl (.tmp 22) (.tmp 25) 24 rfl w.heap.size 3 i0 _ 1 8 Tryz.underlying24 hi0 hz0 hz1 hz2 rfl (by decide) _ q27 (intCells ks27) rfl
                 (HV31_0.out.alloc _) ⟨w31.heap.size,0,none⟩ 1 1 [.int .i64 (hd ks31)] rfl rfl (cells_new _ _ _) (by intro u hu;simp at hu;subst hu;rfl) (by omega) (by simp only [maxLen];omega) (by omega) (by have:=HA31.out.mv.size;simp;omega) (w31.heap.size+1) (by simp) ?_
               intro gg32 cap32 w32 hown32 hg32 hat32 hgl32)
  have HNE32:=hid (ne_grown HA31.out.ps HNE31.out hat32 (q27+1) cap32);clear hat32
  have HB32_0:=hid (blk_grown HB31_0.out HV31_0.out hg32 (by decide))
  have HB32_1:=hid (blk_grown HB31_1.out HV31_0.out hg32 (by decide))
  have HA32:=hid ((HA31.out.alloc (.cells #[.int .i64 (hd ks31)] 3)).grown H.out HV31_0.out (by decide) hg32 HNE31.out)
  have HV32:=hid (show w32.ownsRow w.heap.size 3 1 (.slice (some ⟨gg32,0,none⟩) (q27+1) cap32) (q27+1) (intCells (ks27 ++ [hd ks31])) by rw [intCells_append];exact hown32);clear hown32
  have HQ32:=hid (show (ks27 ++ [hd ks31]).length=q27+1 by rw [List.length_append,HQ27.out];rfl)
  clear hg32 hgl32
  rcases if_split HR31.out with ⟨he33,hr33⟩ | ⟨he33,hr33⟩
  ·skip
   have hlt33:=tx_lt he33 (by simp)
   have HE33:=hid he33;clear he33
   have HR33:=hid hr33;clear hr33
   go_wp2_with fail
   refine (has_yes g tv l en iv hF [117,112,116,111] (.inl (by decide +kernel)) _ k31 _ _ HA32.out.ps (by omega) HE33.out).mono ?_
   rintro e w34 ⟨rfl,p34,m34⟩
   have HB34_0:=hid (m34.blk HB32_0.out (HA32.out.ps.tag HB32_0.out (by decide) (by decide)).1 (HA32.out.ps.tag HB32_0.out (by decide) (by decide)).2)
   have HB34_1:=hid (m34.blk HB32_1.out (HA32.out.ps.tag HB32_1.out (by decide) (by decide)).1 (HA32.out.ps.tag HB32_1.out (by decide) (by decide)).2)
   clear HB32_0 HB32_1
   have HV34_0:=hid (HA32.out.ps.row_mv m34 HV32.out (by decide) (by decide))
   clear HV32
   have HA34:=hid (HA32.out.step p34 m34)
   clear HA32
   clear p34 m34
   go_wp2_with fail
   refine (look_any g tv l en iv _ (k31+1) _ _ HA34.out.ps (by omega) hlen).mono ?_
   rintro e w35 ⟨rfl,hb35⟩
   have HB35_0:=hid (HB34_0.out.below hb35 HB34_0.out.lt)
   have HB35_1:=hid (HB34_1.out.below hb35 HB34_1.out.lt)
   clear HB34_0 HB34_1
   have HV35_0:=hid (own_below HV34_0.out hb35)
   clear HV34_0
   have HA35:=hid (HA34.out.below hb35)
   clear HA34
   clear hb35
   rcases if_split HR33.out with ⟨he36,hr36⟩ | ⟨he36,hr36⟩
   ·skip
    have hlt36:=tx_lt he36 (by simp)
    have HE36:=hid he36;clear he36
    have HR36:=hid hr36;clear hr36
    have q0:(tx l (k31+1) == [48])=true:=text_is _ [48] HE36.out
    have tf1:=tok_field1
    obtain rfl:Res.bad (k31+1)=r:=Option.some.inj HR36.out
    go_wp2_with fail
    refine (fail_any g tv l en iv _ (k31+1) _ _ HA35.out.ps (by omega) hlen).mono ?_
    rintro e wq ⟨rfl,hbq⟩
    (try unfold wrongAt)
    go_wp2_with fail
    exact⟨rfl,IPost.bad rfl ((H.out.low HA35.out.mv).trans (hbq.mono (Nat.le_of_lt HA35.out.ps.lt)))⟩
   ·skip
    have HE36:=hid he36;clear he36
    have HR36:=hid hr36;clear hr36
    have q0:(tx l (k31+1) == [48])=false:=text_isnt _ [48] HE36.out
    have tf1:=tok_field1
    go_wp2_with fail
    clear q0
    rcases needK_split HR36.out with ⟨he37,hr37⟩ | ⟨he37,rfl⟩
    rotate_left
    ·have HE37:=hid he37;clear he37
     refine (number_no g tv l en iv hF _ (k31+1) _ _ HA35.out.ps (by omega) HE37.out).mono ?_
     rintro e w37 ⟨rfl,hb37⟩
     (try unfold wrongAt)
     go_wp2_with fail
     exact⟨rfl,IPost.bad rfl ((H.out.low HA35.out.mv).trans (hb37.mono (Nat.le_of_lt HA35.out.ps.lt)))⟩
    have HR37:=hid hr37;clear hr37 HR36
    have hlt37:=kd_lt he37 (by simp)
    have HE37:=hid he37;clear he37
    refine (number_yes g tv l en iv hF _ (k31+1) _ _ HA35.out.ps (by omega) HE37.out).mono ?_
    rintro e w37 ⟨rfl,p37,m37⟩
    have HB37_0:=hid (m37.blk HB35_0.out (HA35.out.ps.tag HB35_0.out (by decide) (by decide)).1 (HA35.out.ps.tag HB35_0.out (by decide) (by decide)).2)
    have HB37_1:=hid (m37.blk HB35_1.out (HA35.out.ps.tag HB35_1.out (by decide) (by decide)).1 (HA35.out.ps.tag HB35_1.out (by decide) (by decide)).2)
    clear HB35_0 HB35_1
    have HV37_0:=hid (HA35.out.ps.row_mv m37 HV35_0.out (by decide) (by decide))
    clear HV35_0
    have HA37:=hid (HA35.out.step p37 m37)
    clear HA35
    clear p37 m37
    unfold TokAt
    have hru:=HR37.out;unfold funRest at hru;have HRU38:=hid hru;clear hru
    rcases need_split HRU38.out with ⟨he39,hr39⟩ | ⟨he39,rfl⟩
    rotate_left
    ·have HE39:=hid he39;clear he39
     go_wp2_with fail
     refine (need_no g tv l en iv hF [61] (.inr (by decide +kernel)) _ ((k31+1)+1) _ _ HA37.out.ps (by omega) HE39.out).mono ?_
     rintro e w39 ⟨rfl,hb39⟩
     (try unfold wrongAt)
     go_wp2_with fail
     exact⟨rfl,IPost.bad rfl ((H.out.low HA37.out.mv).trans (hb39.mono (Nat.le_of_lt HA37.out.ps.lt)))⟩
    have HR39:=hid hr39;clear hr39 HRU38
    have hlt39:=tx_lt he39 (by simp)
    have HE39:=hid he39;clear he39
    go_wp2_with fail
    refine (need_yes g tv l en iv hF [61] (.inr (by decide +kernel)) _ ((k31+1)+1) _ _ HA37.out.ps (by omega) HE39.out).mono ?_
    rintro e w39 ⟨rfl,p39,m39⟩
    have HB39_0:=hid (m39.blk HB37_0.out (HA37.out.ps.tag HB37_0.out (by decide) (by decide)).1 (HA37.out.ps.tag HB37_0.out (by decide) (by decide)).2)
    have HB39_1:=hid (m39.blk HB37_1.out (HA37.out.ps.tag HB37_1.out (by decide) (by decide)).1 (HA37.out.ps.tag HB37_1.out (by decide) (by decide)).2)
    clear HB37_0 HB37_1
    have HV39_0:=hid (HA37.out.ps.row_mv m39 HV37_0.out (by decide) (by decide))
    clear HV37_0
    have HA39:=hid (HA37.out.step p39 m39)
    clear HA37
    clear p39 m39
    rcases thn_split HR39.out with ⟨ks40,k40,ns40,hx40,hr40⟩ | ⟨kb40,hx40,rfl⟩
    rotate_left
    ·have HX40:=hid hx40;clear hx40
     go_wp2_with fail
     refine (C m (Nat.le_refl _) .expr rfl _ (((k31+1)+1)+1) _ _ _ HA39.out.ps (by omega) (by rw [HA39.out.len];omega) (by rw [HA39.out.ns];exact HWF31.out) (by rw [HA39.out.ns];exact HX40.out)).mono ?_
     rintro e w40 ⟨rfl,hb40⟩
     (try unfold wrongAt)
     go_wp2_with fail
     exact⟨rfl,IPost.bad rfl ((H.out.low HA39.out.mv).trans hb40)⟩
    have HX40:=hid hx40;clear hx40
    have HR40:=hid hr40;clear hr40 HR39
    go_wp2_with fail
    refine (C m (Nat.le_refl _) .expr rfl _ (((k31+1)+1)+1) _ _ _ HA39.out.ps (by omega) (by rw [HA39.out.len];omega) (by rw [HA39.out.ns];exact HWF31.out) (by rw [HA39.out.ns];exact HX40.out)).mono ?_
    rintro e w40 ⟨rfl,ext40,nv40,ha40⟩
    have GO40:=hid (run_goes HX40.out (by omega) HWF31.out (Ids.nil _) (by simp))
    have gl40:=GO40.out.lo;have gf40:=GO40.out.few;have ge40:=GO40.out.le;have gn40:=GO40.out.len
    simp only [Job.reads] at gl40
    have HB40_0:=hid (ha40.blk HA39.out.ps HB39_0.out (by decide) (by decide))
    have HB40_1:=hid (ha40.blk HA39.out.ps HB39_1.out (by decide) (by decide))
    clear HB39_0 HB39_1
    have HNE40:=hid (ne_snoc HNE32.out ha40.fresh (fun b hb=>(HV39_0.out.lt b hb).2));clear HNE32
    have HV40_0:=hid (HA39.out.ps.row_mv ha40.mv HV39_0.out (by decide) (by decide))
    clear HV39_0
    have HWF40:=hid GO40.out.wf
    have HA40:=hid (HA39.out.trans ha40)
    clear HA39
    clear ha40
    go_wp2_with (at_builtin
                 refine wpList_append_lies _ rfl (.tmp 42) (.tmp 45) 24 rfl w.heap.size 3 i0 _ 1 8 Tryz.underlying24 hi0 hz0 hz1 hz2 rfl (by decide) _ (q27+1) (intCells (ks27 ++ [hd ks31])) rfl
                   (HV40_0.out.alloc _) ⟨w40.heap.size,0,none⟩ 1 1 [.int .i64 (hd ks40)] rfl rfl (cells_new _ _ _) (by intro u hu;simp at hu;subst hu;rfl) (by omega) (by simp only [maxLen];omega) (by omega) (by have:=HA40.out.mv.size;simp;omega) (w40.heap.size+1) (by simp) ?_
                 intro gg41 cap41 w41 hown41 hg41 hat41 hgl41;have bz0:=blk_grown HB40_0.out HV40_0.out hg41 (by decide);have sz0_0:=bz0.cell 0;have sz0_1:=bz0.cell 1;have sz0_2:=bz0.cell 2;have szl0:=bz0.lt;have bz1:=blk_grown HB40_1.out HV40_0.out hg41 (by decide);have sz1_1:=bz1.cell 1;have szl1:=bz1.lt)
    have HNE41:=hid (ne_grown HA40.out.ps HNE40.out hat41 ((q27+1)+1) cap41);clear hat41
    have HB41_0:=hid (blk_grown HB40_0.out HV40_0.out hg41 (by decide))
    have HB41_1:=hid (blk_grown HB40_1.out HV40_0.out hg41 (by decide))
    have HA41:=hid ((HA40.out.alloc (.cells #[.int .i64 (hd ks40)] 3)).grown H.out HV40_0.out (by decide) hg41 HNE40.out)
    have HV41:=hid (show w41.ownsRow w.heap.size 3 1 (.slice (some ⟨gg41,0,none⟩) ((q27+1)+1) cap41) ((q27+1)+1) (intCells ((ks27 ++ [hd ks31]) ++ [hd ks40])) by rw [intCells_append];exact hown41);clear hown41
    have HQ41:=hid (show ((ks27 ++ [hd ks31]) ++ [hd ks40]).length=(q27+1)+1 by rw [List.length_append,HQ32.out];rfl)
    clear hg41 hgl41
    obtain rfl:=add_split HR40.out
    have sc0_0:=HB41_0.out.cell 0
    have sc0_1:=HB41_0.out.cell 1
    have sc0_2:=HB41_0.out.cell 2
    have sl0:=HB41_0.out.lt
    have sc1_1:=HB41_1.out.cell 1
    have sl1:=HB41_1.out.lt
    refine (add_at g tv l en iv ns40.length 42 _ _ _ (tx l (k+1)) ((numOf (tx l (k31+1)):Nat):Int) _ ((ks27 ++ [hd ks31]) ++ [hd ks40]) _ k40 _ _ HA41.out.ps (kid_of HQ41.out HV41.out) HA41.out.len (by omega)).mono ?_
    rintro e w42 ⟨rfl,nv42,p42,m42⟩
    have HAF:=hid (HA41.out.add p42 m42 (fun b hb=>(HV41.out.lt b hb).1));clear p42 m42
    go_wp2_with fail
    go_ret
    exact IPost.ok rfl HAF.out
  ·skip
   have HE33:=hid he33;clear he33
   have HR33:=hid hr33;clear hr33
   go_wp2_with fail
   refine (has_no g tv l en iv hF [117,112,116,111] (.inl (by decide +kernel)) _ k31 _ _ HA32.out.ps (by omega) HE33.out).mono ?_
   rintro e w43 ⟨rfl,hb43⟩
   have HB43_0:=hid (HB32_0.out.below hb43 HB32_0.out.lt)
   have HB43_1:=hid (HB32_1.out.below hb43 HB32_1.out.lt)
   clear HB32_0 HB32_1
   have HV43_0:=hid (own_below HV32.out hb43)
   clear HV32
   have HA43:=hid (HA32.out.below hb43)
   clear HA32
   clear hb43
   have hru:=HR33.out;unfold funRest at hru;have HRU44:=hid hru;clear hru
   rcases need_split HRU44.out with ⟨he45,hr45⟩ | ⟨he45,rfl⟩
   rotate_left
   ·have HE45:=hid he45;clear he45
    go_wp2_with fail
    refine (need_no g tv l en iv hF [61] (.inr (by decide +kernel)) _ k31 _ _ HA43.out.ps (by omega) HE45.out).mono ?_
    rintro e w45 ⟨rfl,hb45⟩
    (try unfold wrongAt)
    go_wp2_with fail
    exact⟨rfl,IPost.bad rfl ((H.out.low HA43.out.mv).trans (hb45.mono (Nat.le_of_lt HA43.out.ps.lt)))⟩
   have HR45:=hid hr45;clear hr45 HRU44
   have hlt45:=tx_lt he45 (by simp)
   have HE45:=hid he45;clear he45
   go_wp2_with fail
   refine (need_yes g tv l en iv hF [61] (.inr (by decide +kernel)) _ k31 _ _ HA43.out.ps (by omega) HE45.out).mono ?_
   rintro e w45 ⟨rfl,p45,m45⟩
   have HB45_0:=hid (m45.blk HB43_0.out (HA43.out.ps.tag HB43_0.out (by decide) (by decide)).1 (HA43.out.ps.tag HB43_0.out (by decide) (by decide)).2)
   have HB45_1:=hid (m45.blk HB43_1.out (HA43.out.ps.tag HB43_1.out (by decide) (by decide)).1 (HA43.out.ps.tag HB43_1.out (by decide) (by decide)).2)
   clear HB43_0 HB43_1
   have HV45_0:=hid (HA43.out.ps.row_mv m45 HV43_0.out (by decide) (by decide))
   clear HV43_0
   have HA45:=hid (HA43.out.step p45 m45)
   clear HA43
   clear p45 m45
   rcases thn_split HR45.out with ⟨ks46,k46,ns46,hx46,hr46⟩ | ⟨kb46,hx46,rfl⟩
   rotate_left
   ·have HX46:=hid hx46;clear hx46
    go_wp2_with fail
    refine (C m (Nat.le_refl _) .expr rfl _ (k31+1) _ _ _ HA45.out.ps (by omega) (by rw [HA45.out.len];omega) (by rw [HA45.out.ns];exact HWF31.out) (by rw [HA45.out.ns];exact HX46.out)).mono ?_
    rintro e w46 ⟨rfl,hb46⟩
    (try unfold wrongAt)
    go_wp2_with fail
    exact⟨rfl,IPost.bad rfl ((H.out.low HA45.out.mv).trans hb46)⟩
   have HX46:=hid hx46;clear hx46
   have HR46:=hid hr46;clear hr46 HR45
   go_wp2_with fail
   refine (C m (Nat.le_refl _) .expr rfl _ (k31+1) _ _ _ HA45.out.ps (by omega) (by rw [HA45.out.len];omega) (by rw [HA45.out.ns];exact HWF31.out) (by rw [HA45.out.ns];exact HX46.out)).mono ?_
   rintro e w46 ⟨rfl,ext46,nv46,ha46⟩
   have GO46:=hid (run_goes HX46.out (by omega) HWF31.out (Ids.nil _) (by simp))
   have gl46:=GO46.out.lo;have gf46:=GO46.out.few;have ge46:=GO46.out.le;have gn46:=GO46.out.len
   simp only [Job.reads] at gl46
   have HB46_0:=hid (ha46.blk HA45.out.ps HB45_0.out (by decide) (by decide))
   have HB46_1:=hid (ha46.blk HA45.out.ps HB45_1.out (by decide) (by decide))
   clear HB45_0 HB45_1
   have HNE46:=hid (ne_snoc HNE32.out ha46.fresh (fun b hb=>(HV45_0.out.lt b hb).2));clear HNE32
   have HV46_0:=hid (HA45.out.ps.row_mv ha46.mv HV45_0.out (by decide) (by decide))
   clear HV45_0
   have HWF46:=hid GO46.out.wf
   have HA46:=hid (HA45.out.trans ha46)
   clear HA45
   clear ha46
   go_wp2_with (at_builtin
                refine wpList_append_lies _ rfl (.tmp 42) (.tmp 45) 24 rfl w.heap.size 3 i0 _ 1 8 Tryz.underlying24 hi0 hz0 hz1 hz2 rfl (by decide) _ (q27+1) (intCells (ks27 ++ [hd ks31])) rfl
                  (HV46_0.out.alloc _) ⟨w46.heap.size,0,none⟩ 1 1 [.int .i64 (hd ks46)] rfl rfl (cells_new _ _ _) (by intro u hu;simp at hu;subst hu;rfl) (by omega) (by simp only [maxLen];omega) (by omega) (by have:=HA46.out.mv.size;simp;omega) (w46.heap.size+1) (by simp) ?_
                intro gg47 cap47 w47 hown47 hg47 hat47 hgl47;have bz0:=blk_grown HB46_0.out HV46_0.out hg47 (by decide);have sz0_0:=bz0.cell 0;have sz0_1:=bz0.cell 1;have sz0_2:=bz0.cell 2;have szl0:=bz0.lt;have bz1:=blk_grown HB46_1.out HV46_0.out hg47 (by decide);have sz1_1:=bz1.cell 1;have szl1:=bz1.lt)
   have HNE47:=hid (ne_grown HA46.out.ps HNE46.out hat47 ((q27+1)+1) cap47);clear hat47
   have HB47_0:=hid (blk_grown HB46_0.out HV46_0.out hg47 (by decide))
   have HB47_1:=hid (blk_grown HB46_1.out HV46_0.out hg47 (by decide))
   have HA47:=hid ((HA46.out.alloc (.cells #[.int .i64 (hd ks46)] 3)).grown H.out HV46_0.out (by decide) hg47 HNE46.out)
   have HV47:=hid (show w47.ownsRow w.heap.size 3 1 (.slice (some ⟨gg47,0,none⟩) ((q27+1)+1) cap47) ((q27+1)+1) (intCells ((ks27 ++ [hd ks31]) ++ [hd ks46])) by rw [intCells_append];exact hown47);clear hown47
   have HQ47:=hid (show ((ks27 ++ [hd ks31]) ++ [hd ks46]).length=(q27+1)+1 by rw [List.length_append,HQ32.out];rfl)
   clear hg47 hgl47
   obtain rfl:=add_split HR46.out
   have sc0_0:=HB47_0.out.cell 0
   have sc0_1:=HB47_0.out.cell 1
   have sc0_2:=HB47_0.out.cell 2
   have sl0:=HB47_0.out.lt
   have sc1_1:=HB47_1.out.cell 1
   have sl1:=HB47_1.out.lt
   refine (add_at g tv l en iv ns46.length 42 _ _ _ (tx l (k+1)) 0 _ ((ks27 ++ [hd ks31]) ++ [hd ks46]) _ k46 _ _ HA47.out.ps (kid_of HQ47.out HV47.out) HA47.out.len (by omega)).mono ?_
   rintro e w48 ⟨rfl,nv48,p48,m48⟩
   have HAF:=hid (HA47.out.add p48 m48 (fun b hb=>(HV47.out.lt b hb).1));clear p48 m48
   go_wp2_with fail
   go_ret
   exact IPost.ok rfl HAF.out
end
end Go.Proofs.YthepmkjggfijoaaGreatDoor
