/-
  PARTS of the proof: TQatom, TQpost, TG.
-/
import Derived.Test.YthepmkjggfijoaaGreatDoorB08
import Derived.Test.YthepmkjggfijoaaGreatDoorB11
import Derived.Test.YthepmkjggfijoaaGreatDoorB12
import Derived.Test.YthepmkjggfijoaaGreatDoorB13
import Derived.Test.YthepmkjggfijoaaGreatDoorB14
set_option linter.all false
set_option maxRecDepth 100000
set_option maxHeartbeats 4000000
open Go.Lib (hid)
namespace Go.Proofs.YthepmkjggfijoaaGreatDoor
open Go.RowKit Mist
attribute [local go_sem] ofL_extract ofL_size ofL_get ofL_bytes ofL_append
section
variable {g:Nat} {tv:Value} {l:List Tok} {en:Int} {iv:Value} (hF:PF l)
include hF
theorem part_atom (m:Nat) (C:∀ f,f≤m→∀ j,isFn j=true→IC g tv l en iv f j) (CL:∀ f,f≤m→∀ e,LC g tv l en iv f e):IC g tv l en iv (m+1) .atom:=by
 intro w k xs nv r h hk hn hw hr
 have H:=hid h;clear h
 have HA0:=hid (At.refl H.out)
 have HW0:=hid hw;clear hw
 have hn0:(nds xs).length≤k:=by rw [nds_len];exact hn
 have hlen:=hF.len
 rw [run] at hr
 unfold jobFn
 go_enter Tryz.func258,Tryz.ntmps258
 have HR0:=hid hr;clear hr
 go_wp2_with fail
 refine (look_any g tv l en iv _ k _ _ HA0.out.ps (by omega) hlen).mono ?_
 rintro e w1 ⟨rfl,hb1⟩
 have HA1:=hid (HA0.out.below hb1)
 skip
 clear hb1
 have HN1:=hid (Blk.new w1 68 #[.int .u8 (tg l k).kind,.string (ofL (tx l k)),.int .i64 (pl l en k)])
 have HA1001:=hid (HA1.out.alloc (.cells #[.int .u8 (tg l k).kind,.string (ofL (tx l k)),.int .i64 (pl l en k)] 68))
 clear HA1
 rcases if_split HR0.out with ⟨he2,hr2⟩ | ⟨he2,hr2⟩
 ·skip
  have hlt2:=kd_lt he2 (by simp)
  have b2:(((tg l k).kind:Int) == 2)=true:=by rw [he2];rfl
  have HE2:=hid he2;clear he2
  have HR2:=hid hr2;clear hr2
  have sc0_0:=HN1.out.cell 0
  have sl0:=HN1.out.lt
  go_wp2_with fail
  clear b2
  refine (number_yes g tv l en iv hF _ k _ _ HA1001.out.ps (by omega) HE2.out).mono ?_
  rintro e w3 ⟨rfl,p3,m3⟩
  have HB3_0:=hid (m3.blk HN1.out (HA1001.out.ps.tag HN1.out (by decide) (by decide)).1 (HA1001.out.ps.tag HN1.out (by decide) (by decide)).2)
  clear HN1
  have HA3:=hid (HA1001.out.step p3 m3)
  clear HA1001
  clear p3 m3
  unfold TokAt
  have HB1003_0:=hid (HB3_0.out.alloc (.cells #[.int .u8 (tg l k).kind,.string (ofL (tx l k)),.int .i64 (pl l en k)] 68))
  clear HB3_0
  have HN3:=hid (Blk.new w3 68 #[.int .u8 (tg l k).kind,.string (ofL (tx l k)),.int .i64 (pl l en k)])
  have HA1003:=hid (HA3.out.alloc (.cells #[.int .u8 (tg l k).kind,.string (ofL (tx l k)),.int .i64 (pl l en k)] 68))
  clear HA3
  obtain rfl:=add_split HR2.out
  have sc0_0:=HB1003_0.out.cell 0
  have sc0_1:=HB1003_0.out.cell 1
  have sc0_2:=HB1003_0.out.cell 2
  have sl0:=HB1003_0.out.lt
  go_wp2_with fail
  refine (add_at g tv l en iv (nds xs).length 1 _ _ _ [] ((numOf (tx l k):Nat):Int) _ [] _ (k+1) _ _ HA1003.out.ps (KidRow.none_ _) HA1003.out.len (by omega)).mono ?_
  rintro e w4 ⟨rfl,nv4,p4,m4⟩
  have HAF:=hid (HA1003.out.add p4 m4 (by intro b hb;simp [Value.ownBlock] at hb));clear p4 m4
  go_wp2_with fail
  go_ret
  exact IPost.ok rfl HAF.out
 ·skip
  have b2:(((tg l k).kind:Int) == 2)=false:=by simp;omega
  have HE2:=hid he2;clear he2
  have HR2:=hid hr2;clear hr2
  have sc0_0:=HN1.out.cell 0
  have sl0:=HN1.out.lt
  go_wp2_with fail
  clear b2
  rcases if_split HR2.out with ⟨he5,hr5⟩ | ⟨he5,hr5⟩
  ·skip
   have hlt5:=tx_lt he5 (by simp)
   have HE5:=hid he5;clear he5
   have HR5:=hid hr5;clear hr5
   go_wp2_with fail
   refine (has_yes g tv l en iv hF [116,114,117,101] (.inl (by decide +kernel)) _ k _ _ HA1001.out.ps (by omega) HE5.out).mono ?_
   rintro e w6 ⟨rfl,p6,m6⟩
   have HB6_0:=hid (m6.blk HN1.out (HA1001.out.ps.tag HN1.out (by decide) (by decide)).1 (HA1001.out.ps.tag HN1.out (by decide) (by decide)).2)
   clear HN1
   have HA6:=hid (HA1001.out.step p6 m6)
   clear HA1001
   clear p6 m6
   obtain rfl:=add_split HR5.out
   have sc0_0:=HB6_0.out.cell 0
   have sc0_1:=HB6_0.out.cell 1
   have sc0_2:=HB6_0.out.cell 2
   have sl0:=HB6_0.out.lt
   go_wp2_with fail
   refine (add_at g tv l en iv (nds xs).length 2 _ _ _ [] 1 _ [] _ (k+1) _ _ HA6.out.ps (KidRow.none_ _) HA6.out.len (by omega)).mono ?_
   rintro e w7 ⟨rfl,nv7,p7,m7⟩
   have HAF:=hid (HA6.out.add p7 m7 (by intro b hb;simp [Value.ownBlock] at hb));clear p7 m7
   go_wp2_with fail
   go_ret
   exact IPost.ok rfl HAF.out
  ·skip
   have HE5:=hid he5;clear he5
   have HR5:=hid hr5;clear hr5
   go_wp2_with fail
   refine (has_no g tv l en iv hF [116,114,117,101] (.inl (by decide +kernel)) _ k _ _ HA1001.out.ps (by omega) HE5.out).mono ?_
   rintro e w8 ⟨rfl,hb8⟩
   have HB8_0:=hid (HN1.out.below hb8 HN1.out.lt)
   clear HN1
   have HA8:=hid (HA1001.out.below hb8)
   clear HA1001
   clear hb8
   rcases if_split HR5.out with ⟨he9,hr9⟩ | ⟨he9,hr9⟩
   ·skip
    have hlt9:=tx_lt he9 (by simp)
    have HE9:=hid he9;clear he9
    have HR9:=hid hr9;clear hr9
    go_wp2_with fail
    refine (has_yes g tv l en iv hF [102,97,108,115,101] (.inl (by decide +kernel)) _ k _ _ HA8.out.ps (by omega) HE9.out).mono ?_
    rintro e w10 ⟨rfl,p10,m10⟩
    have HB10_0:=hid (m10.blk HB8_0.out (HA8.out.ps.tag HB8_0.out (by decide) (by decide)).1 (HA8.out.ps.tag HB8_0.out (by decide) (by decide)).2)
    clear HB8_0
    have HA10:=hid (HA8.out.step p10 m10)
    clear HA8
    clear p10 m10
    obtain rfl:=add_split HR9.out
    have sc0_0:=HB10_0.out.cell 0
    have sc0_1:=HB10_0.out.cell 1
    have sc0_2:=HB10_0.out.cell 2
    have sl0:=HB10_0.out.lt
    go_wp2_with fail
    refine (add_at g tv l en iv (nds xs).length 2 _ _ _ [] 0 _ [] _ (k+1) _ _ HA10.out.ps (KidRow.none_ _) HA10.out.len (by omega)).mono ?_
    rintro e w11 ⟨rfl,nv11,p11,m11⟩
    have HAF:=hid (HA10.out.add p11 m11 (by intro b hb;simp [Value.ownBlock] at hb));clear p11 m11
    go_wp2_with fail
    go_ret
    exact IPost.ok rfl HAF.out
   ·skip
    have HE9:=hid he9;clear he9
    have HR9:=hid hr9;clear hr9
    go_wp2_with fail
    refine (has_no g tv l en iv hF [102,97,108,115,101] (.inl (by decide +kernel)) _ k _ _ HA8.out.ps (by omega) HE9.out).mono ?_
    rintro e w12 ⟨rfl,hb12⟩
    have HB12_0:=hid (HB8_0.out.below hb12 HB8_0.out.lt)
    clear HB8_0
    have HA12:=hid (HA8.out.below hb12)
    clear HA8
    clear hb12
    rcases if_split HR9.out with ⟨he13,hr13⟩ | ⟨he13,hr13⟩
    ·skip
     have hlt13:=tx_lt he13 (by simp)
     have HE13:=hid he13;clear he13
     have HR13:=hid hr13;clear hr13
     go_wp2_with fail
     refine (has_yes g tv l en iv hF [40] (.inr (by decide +kernel)) _ k _ _ HA12.out.ps (by omega) HE13.out).mono ?_
     rintro e w14 ⟨rfl,p14,m14⟩
     have HB14_0:=hid (m14.blk HB12_0.out (HA12.out.ps.tag HB12_0.out (by decide) (by decide)).1 (HA12.out.ps.tag HB12_0.out (by decide) (by decide)).2)
     clear HB12_0
     have HA14:=hid (HA12.out.step p14 m14)
     clear HA12
     clear p14 m14
     rcases thn_split HR13.out with ⟨ks15,k15,ns15,hx15,hr15⟩ | ⟨kb15,hx15,rfl⟩
     rotate_left
     ·have HX15:=hid hx15;clear hx15
      go_wp2_with fail
      refine (C m (Nat.le_refl _) .expr rfl _ (k+1) _ _ _ HA14.out.ps (by omega) (by rw [HA14.out.len];omega) (by rw [HA14.out.ns];exact HW0.out) (by rw [HA14.out.ns];exact HX15.out)).mono ?_
      rintro e w15 ⟨rfl,hb15⟩
      unfold wrongAt
      go_wp2_with fail
      exact⟨rfl,IPost.bad rfl ((H.out.low HA14.out.mv).trans hb15)⟩
     have HX15:=hid hx15;clear hx15
     have HR15:=hid hr15;clear hr15 HR13
     go_wp2_with fail
     refine (C m (Nat.le_refl _) .expr rfl _ (k+1) _ _ _ HA14.out.ps (by omega) (by rw [HA14.out.len];omega) (by rw [HA14.out.ns];exact HW0.out) (by rw [HA14.out.ns];exact HX15.out)).mono ?_
     rintro e w15 ⟨rfl,ext15,nv15,ha15⟩
     have GO15:=hid (run_goes HX15.out (by omega) HW0.out (Ids.nil _) (by simp))
     have gl15:=GO15.out.lo;have gf15:=GO15.out.few;have ge15:=GO15.out.le;have gn15:=GO15.out.len
     simp only [Job.reads] at gl15
     have HB15_0:=hid (ha15.blk HA14.out.ps HB14_0.out (by decide) (by decide))
     clear HB14_0
     have HWF15:=hid GO15.out.wf
     have HA15:=hid (HA14.out.trans ha15)
     clear HA14
     clear ha15
     rcases need_split HR15.out with ⟨he16,hr16⟩ | ⟨he16,rfl⟩
     rotate_left
     ·have HE16:=hid he16;clear he16
      go_wp2_with fail
      refine (need_no g tv l en iv hF [41] (.inr (by decide +kernel)) _ k15 _ _ HA15.out.ps (by omega) HE16.out).mono ?_
      rintro e w16 ⟨rfl,hb16⟩
      unfold wrongAt
      go_wp2_with fail
      exact⟨rfl,IPost.bad rfl ((H.out.low HA15.out.mv).trans (hb16.mono (Nat.le_of_lt HA15.out.ps.lt)))⟩
     have HR16:=hid hr16;clear hr16 HR15
     have hlt16:=tx_lt he16 (by simp)
     have HE16:=hid he16;clear he16
     go_wp2_with fail
     refine (need_yes g tv l en iv hF [41] (.inr (by decide +kernel)) _ k15 _ _ HA15.out.ps (by omega) HE16.out).mono ?_
     rintro e w16 ⟨rfl,p16,m16⟩
     have HB16_0:=hid (m16.blk HB15_0.out (HA15.out.ps.tag HB15_0.out (by decide) (by decide)).1 (HA15.out.ps.tag HB15_0.out (by decide) (by decide)).2)
     clear HB15_0
     have HA16:=hid (HA15.out.step p16 m16)
     clear HA15
     clear p16 m16
     obtain rfl:=(Option.some.inj HR16.out).symm
     go_wp2_with fail
     go_ret
     exact IPost.ok rfl HA16.out
    ·skip
     have HE13:=hid he13;clear he13
     have HR13:=hid hr13;clear hr13
     go_wp2_with fail
     refine (has_no g tv l en iv hF [40] (.inr (by decide +kernel)) _ k _ _ HA12.out.ps (by omega) HE13.out).mono ?_
     rintro e w17 ⟨rfl,hb17⟩
     have HB17_0:=hid (HB12_0.out.below hb17 HB12_0.out.lt)
     clear HB12_0
     have HA17:=hid (HA12.out.below hb17)
     clear HA12
     clear hb17
     rcases if_split HR13.out with ⟨he18,hr18⟩ | ⟨he18,hr18⟩
     ·skip
      have hlt18:=tx_lt he18 (by simp)
      have HE18:=hid he18;clear he18
      have HR18:=hid hr18;clear hr18
      go_wp2_with fail
      refine (has_yes g tv l en iv hF [91] (.inr (by decide +kernel)) _ k _ _ HA17.out.ps (by omega) HE18.out).mono ?_
      rintro e w19 ⟨rfl,p19,m19⟩
      have HB19_0:=hid (m19.blk HB17_0.out (HA17.out.ps.tag HB17_0.out (by decide) (by decide)).1 (HA17.out.ps.tag HB17_0.out (by decide) (by decide)).2)
      clear HB17_0
      have HA19:=hid (HA17.out.step p19 m19)
      clear HA17
      clear p19 m19
      rcases thn_split HR18.out with ⟨ks20,k20,ns20,hx20,hr20⟩ | ⟨kb20,hx20,rfl⟩
      rotate_left
      ·have HX20:=hid hx20;clear hx20
       go_wp2_with fail
       refine (CL m (Nat.le_refl _) .expr _ (k+1) _ _ _ HA19.out.ps (by omega) (by rw [HA19.out.len];omega) (by rw [HA19.out.ns];exact HW0.out) (by rw [HA19.out.ns];exact HX20.out)).mono ?_
       rintro e w20 ⟨rfl,hb20⟩
       unfold wrongAt
       go_wp2_with fail
       exact⟨rfl,IPost.bad rfl ((H.out.low HA19.out.mv).trans hb20)⟩
      have HX20:=hid hx20;clear hx20
      have HR20:=hid hr20;clear hr20 HR18
      go_wp2_with fail
      refine (CL m (Nat.le_refl _) .expr _ (k+1) _ _ _ HA19.out.ps (by omega) (by rw [HA19.out.len];omega) (by rw [HA19.out.ns];exact HW0.out) (by rw [HA19.out.ns];exact HX20.out)).mono ?_
      rintro e w20 ⟨v20,ext20,nv20,rfl,ho20,ha20,hd20⟩
      have HV20:=hid (own_base (base':=w.heap.size) ho20 (fun b hb=>Nat.le_trans HA19.out.mv.size (ho20.lt b hb).1));clear ho20 hd20
      have GO20:=hid (run_goes HX20.out (by omega) HW0.out (Ids.nil _) (by simp))
      have gl20:=GO20.out.lo;have gf20:=GO20.out.few;have ge20:=GO20.out.le;have gn20:=GO20.out.len
      simp only [Job.reads] at gl20
      have HB20_0:=hid (ha20.blk HA19.out.ps HB19_0.out (by decide) (by decide))
      clear HB19_0
      have HWF20:=hid GO20.out.wf
      have HA20:=hid (HA19.out.trans ha20)
      clear HA19
      clear ha20
      rcases need_split HR20.out with ⟨he21,hr21⟩ | ⟨he21,rfl⟩
      rotate_left
      ·have HE21:=hid he21;clear he21
       go_wp2_with fail
       refine (need_no g tv l en iv hF [93] (.inr (by decide +kernel)) _ k20 _ _ HA20.out.ps (by omega) HE21.out).mono ?_
       rintro e w21 ⟨rfl,hb21⟩
       unfold wrongAt
       go_wp2_with fail
       exact⟨rfl,IPost.bad rfl ((H.out.low HA20.out.mv).trans (hb21.mono (Nat.le_of_lt HA20.out.ps.lt)))⟩
      have HR21:=hid hr21;clear hr21 HR20
      have hlt21:=tx_lt he21 (by simp)
      have HE21:=hid he21;clear he21
      go_wp2_with fail
      refine (need_yes g tv l en iv hF [93] (.inr (by decide +kernel)) _ k20 _ _ HA20.out.ps (by omega) HE21.out).mono ?_
      rintro e w21 ⟨rfl,p21,m21⟩
      have HB21_0:=hid (m21.blk HB20_0.out (HA20.out.ps.tag HB20_0.out (by decide) (by decide)).1 (HA20.out.ps.tag HB20_0.out (by decide) (by decide)).2)
      clear HB20_0
      have HV21_0:=hid (HA20.out.ps.row_mv m21 HV20.out (by decide) (by decide))
      clear HV20
      have HA21:=hid (HA20.out.step p21 m21)
      clear HA20
      clear p21 m21
      obtain rfl:=add_split HR21.out
      have sc0_0:=HB21_0.out.cell 0
      have sc0_1:=HB21_0.out.cell 1
      have sc0_2:=HB21_0.out.cell 2
      have sl0:=HB21_0.out.lt
      go_wp2_with fail
      refine (add_at g tv l en iv ns20.length 26 _ _ _ [] 0 _ ks20 _ (k20+1) _ _ HA21.out.ps (own_base HV21_0.out (fun _ _=>Nat.zero_le _)) HA21.out.len (by omega)).mono ?_
      rintro e w22 ⟨rfl,nv22,p22,m22⟩
      have HAF:=hid (HA21.out.add p22 m22 (fun b hb=>(HV21_0.out.lt b hb).1));clear p22 m22
      go_wp2_with fail
      go_ret
      exact IPost.ok rfl HAF.out
     ·skip
      have HE18:=hid he18;clear he18
      have HR18:=hid hr18;clear hr18
      go_wp2_with fail
      refine (has_no g tv l en iv hF [91] (.inr (by decide +kernel)) _ k _ _ HA17.out.ps (by omega) HE18.out).mono ?_
      rintro e w23 ⟨rfl,hb23⟩
      have HB23_0:=hid (HB17_0.out.below hb23 HB17_0.out.lt)
      clear HB17_0
      have HA23:=hid (HA17.out.below hb23)
      clear HA17
      clear hb23
      rcases needK_split HR18.out with ⟨he24,hr24⟩ | ⟨he24,rfl⟩
      rotate_left
      ·have HE24:=hid he24;clear he24
       go_wp2_with fail
       refine (name_no g tv l en iv hF _ k _ _ HA23.out.ps (by omega) HE24.out).mono ?_
       rintro e w24 ⟨rfl,hb24⟩
       unfold wrongAt
       go_wp2_with fail
       exact⟨rfl,IPost.bad rfl ((H.out.low HA23.out.mv).trans (hb24.mono (Nat.le_of_lt HA23.out.ps.lt)))⟩
      have HR24:=hid hr24;clear hr24 HR18
      have hlt24:=kd_lt he24 (by simp)
      have HE24:=hid he24;clear he24
      go_wp2_with fail
      refine (name_yes g tv l en iv hF _ k _ _ HA23.out.ps (by omega) HE24.out).mono ?_
      rintro e w24 ⟨rfl,p24,m24⟩
      have HB24_0:=hid (m24.blk HB23_0.out (HA23.out.ps.tag HB23_0.out (by decide) (by decide)).1 (HA23.out.ps.tag HB23_0.out (by decide) (by decide)).2)
      clear HB23_0
      have HA24:=hid (HA23.out.step p24 m24)
      clear HA23
      clear p24 m24
      unfold TokAt
      have HQ:=hid (named_any hF m CL _ k _ _ r HA24.out.ps (by omega) (by rw [HA24.out.len];omega) (by rw [HA24.out.ns];exact HW0.out) (by rw [HA24.out.ns];exact HR24.out))
      go_wp2_with fail
      cases r with
      | bad kb =>
       refine HQ.out.mono ?_
       rintro e wq ⟨rfl,hbq⟩
       unfold wrongAt
       go_wp2_with fail
       exact⟨rfl,IPost.bad rfl ((H.out.low HA24.out.mv).trans hbq)⟩
      | ok ksq kq nsq =>
       refine HQ.out.mono ?_
       rintro e wq ⟨rfl,extq,nvq,haq⟩
       have HAQ:=hid (HA24.out.trans haq);clear haq
       go_wp2_with fail
       go_ret
       exact IPost.ok rfl HAQ.out
end
end Go.Proofs.YthepmkjggfijoaaGreatDoor
namespace Go.Proofs.YthepmkjggfijoaaGreatDoor
open Go.RowKit Mist
attribute [local go_sem] ofL_extract ofL_size ofL_get ofL_bytes ofL_append
section
variable {g:Nat} {tv:Value} {l:List Tok} {en:Int} {iv:Value} (hF:PF l)
include hF
theorem part_post (m:Nat) (C:∀ f,f≤m→∀ j,isFn j=true→IC g tv l en iv f j) (CL:∀ f,f≤m→∀ e,LC g tv l en iv f e):IC g tv l en iv (m+1) .post:=by
 intro w k xs nv r h hk hn hw hr
 have H:=hid h;clear h
 have HA0:=hid (At.refl H.out)
 have HW0:=hid hw;clear hw
 have hn0:(nds xs).length≤k:=by rw [nds_len];exact hn
 have hlen:=hF.len
 rw [run] at hr
 unfold jobFn
 go_enter Tryz.func257,Tryz.ntmps257
 have HR0:=hid hr;clear hr
 rcases thn_split HR0.out with ⟨ks1,k1,ns1,hx1,hr1⟩ | ⟨kb1,hx1,rfl⟩
 rotate_left
 ·have HX1:=hid hx1;clear hx1
  go_wp2_with fail
  refine (C m (Nat.le_refl _) .atom rfl _ k _ _ _ HA0.out.ps (by omega) (by rw [HA0.out.len];omega) (by rw [HA0.out.ns];exact HW0.out) (by rw [HA0.out.ns];exact HX1.out)).mono ?_
  rintro e w1 ⟨rfl,hb1⟩
  unfold wrongAt
  go_wp2_with fail
  exact⟨rfl,IPost.bad rfl ((H.out.low HA0.out.mv).trans hb1)⟩
 have HX1:=hid hx1;clear hx1
 have HR1:=hid hr1;clear hr1 HR0
 go_wp2_with fail
 refine (C m (Nat.le_refl _) .atom rfl _ k _ _ _ HA0.out.ps (by omega) (by rw [HA0.out.len];omega) (by rw [HA0.out.ns];exact HW0.out) (by rw [HA0.out.ns];exact HX1.out)).mono ?_
 rintro e w1 ⟨rfl,ext1,nv1,ha1⟩
 have GO1:=hid (run_goes HX1.out (by omega) HW0.out (Ids.nil _) (by simp))
 have gl1:=GO1.out.lo;have gf1:=GO1.out.few;have ge1:=GO1.out.le;have gn1:=GO1.out.len
 simp only [Job.reads] at gl1
 have HWF1:=hid GO1.out.wf
 have HA1:=hid (HA0.out.trans ha1)
 skip
 clear ha1
 have HRL:=hid (show run l en m (.postT (hd ks1)) k1 (nds (xs ++ ([] ++ ext1)))=some r by rw [HA1.out.ns];exact HR1.out)
 have HWL:=hid (show Wf (nds (xs ++ ([] ++ ext1))) by rw [HA1.out.ns];exact HWF1.out)
 have HID:=hid (show 0≤hd ks1∧hd ks1 < ((xs ++ ([] ++ ext1)).length:Int) by rw [HA1.out.len];exact GO1.out.hd)
 have HAL:=hid (show At g tv l en iv w xs nv k1 (nds (xs ++ ([] ++ ext1))) w1 ([] ++ ext1) nv1 by rw [HA1.out.ns];exact HA1.out)
 have hcn:(xs ++ ([] ++ ext1)).length≤k1:=by rw [HA1.out.len];omega
 obtain⟨av,hav⟩:∃ av,av=hd ks1:=⟨_,rfl⟩
 rw [← hav] at HRL HID ⊢
 clear hav
 go_wp2_with fail
 go_loopw [3] (fun a wr=>∃ (f k':Nat) (ext:List NV) (nv':Value) (av:Int),a=.int .i64 av∧f≤m∧k'≤l.length∧(xs ++ ext).length≤k'∧Hid (run l en f (.postT av) k' (nds (xs ++ ext))=some r)∧Hid (Wf (nds (xs ++ ext)))∧Hid (0≤av∧av < ((xs ++ ext).length:Int))∧Hid (At g tv l en iv w xs nv k' (nds (xs ++ ext)) wr ext nv')) (fun _ wr=>toGo g l.length wr)
 case atStart=>exact⟨m,k1,[] ++ ext1,nv1,av,rfl,Nat.le_refl _,ge1,hcn,HRL,HWL,HID,HAL⟩
 case round =>
  clear HRL HWL HID HAL hcn HA1 HR1 HX1 GO1 gl1 gf1 ge1 gn1 HWF1
  obtain⟨f,k',ext,nv',av,rfl,hfm,hk',hn',HRT,HWF,HID,HA⟩:=hrel
  obtain⟨f,rfl⟩:∃ f0,f=f0+1:=⟨f - 1,by
   rcases Nat.eq_zero_or_pos f with h | h
   ·subst h;have:=HRT.out;rw [run] at this;cases this
   ·omega⟩
  have HMS:=hid (HA.out.ps.toGo (n:=l.length))
  have hnl:(nds (xs ++ ext)).length≤k':=by rw [nds_len];exact hn'
  have hr:=HRT.out;rw [run] at hr;have HR0:=hid hr;clear hr HRT
  have HIDN:=hid (show 0≤av∧av < ((nds (xs ++ ext)).length:Int) by rw [nds_len];exact HID.out)
  go_wp2_with fail
  refine (look_any g tv l en iv _ k' _ _ HA.out.ps (by omega) hlen).mono ?_
  rintro e w2 ⟨rfl,hb2⟩
  have HA2:=hid (HA.out.below hb2)
  clear HA
  clear hb2
  have HN2:=hid (Blk.new w2 68 #[.int .u8 (tg l k').kind,.string (ofL (tx l k')),.int .i64 (pl l en k')])
  have HA1002:=hid (HA2.out.alloc (.cells #[.int .u8 (tg l k').kind,.string (ofL (tx l k')),.int .i64 (pl l en k')] 68))
  clear HA2
  rcases if_split HR0.out with ⟨he3,hr3⟩ | ⟨he3,hr3⟩
  ·skip
   have hlt3:=tx_lt he3 (by simp)
   have HE3:=hid he3;clear he3
   have HR3:=hid hr3;clear hr3
   go_wp2_with fail
   refine (has_yes g tv l en iv hF [46] (.inr (by decide +kernel)) _ k' _ _ HA1002.out.ps (by omega) HE3.out).mono ?_
   rintro e w4 ⟨rfl,p4,m4⟩
   have HB4_0:=hid (m4.blk HN2.out (HA1002.out.ps.tag HN2.out (by decide) (by decide)).1 (HA1002.out.ps.tag HN2.out (by decide) (by decide)).2)
   clear HN2
   have HA4:=hid (HA1002.out.step p4 m4)
   clear HA1002
   clear p4 m4
   have hzA:=HA4.out.mv.size
   rcases needK_split HR3.out with ⟨he5,hr5⟩ | ⟨he5,rfl⟩
   rotate_left
   ·have HE5:=hid he5;clear he5
    have sc0_0:=HB4_0.out.cell 0
    have sc0_1:=HB4_0.out.cell 1
    have sc0_2:=HB4_0.out.cell 2
    have sl0:=HB4_0.out.lt
    go_wp2_with fail
    refine wp_region_held_drew (S:=fun w'=>w'.cell? ⟨w2.heap.size,0,none⟩=some (.int .u8 (tg l k').kind)∧w'.cell? ⟨w2.heap.size,1,none⟩=some (.string (ofL (tx l k')))∧w'.cell? ⟨w2.heap.size,2,none⟩=some (.int .i64 (pl l en k'))) (by kernel_rfl) ⟨sc0_0,sc0_1,sc0_2⟩ (fun hHeld=>?_)
    refine take_nth (i:=0) .z (by kernel_rfl) (by kernel_rfl) (by kernel_rfl) (fun _ _ _ h=>h) (v:=?_) ⟨by rfl,?_⟩ hHeld ?_
    rotate_left
    ·(intro w0 hSw;(try dsimp only at hSw);go_split_ands;go_simp;try with_reducible rfl)
    simp only [Act.put,List.setIfInBounds_toArray,List.set_cons_zero,List.set_cons_succ]
    refine take_nth (i:=1) (.s .z) (by kernel_rfl) (by kernel_rfl) (by kernel_rfl) (fun _ _ _ h=>h) (v:=?_) ⟨by rfl,?_⟩ hHeld ?_
    rotate_left
    ·(intro w0 hSw;(try dsimp only at hSw);go_split_ands;go_simp;try with_reducible rfl)
    simp only [Act.put,List.setIfInBounds_toArray,List.set_cons_zero,List.set_cons_succ]
    refine take_nth (i:=2) (.s (.s .z)) (by kernel_rfl) (by kernel_rfl) (by kernel_rfl) (fun _ _ _ h=>h) (v:=?_) ⟨by rfl,?_⟩ hHeld ?_
    rotate_left
    ·(intro w0 hSw;(try dsimp only at hSw);go_split_ands;go_simp;try with_reducible rfl)
    simp only [Act.put,List.setIfInBounds_toArray,List.set_cons_zero,List.set_cons_succ]
    refine take_nth (i:=5) (.s (.s (.s (.s (.s .z))))) (by kernel_rfl) (by kernel_rfl) (by kernel_rfl) (fun _ _ _ h=>h) (v:=?_) ⟨by rfl,?_⟩ hHeld ?_
    rotate_left
    ·(intro w0 hSw;(try dsimp only at hSw);go_split_ands;go_simp;try with_reducible rfl)
    simp only [Act.put,List.setIfInBounds_toArray,List.set_cons_zero,List.set_cons_succ]
    refine wpAnyH_ready (rs:=[3,6]) (by kernel_rfl) (by simp) ?_
    refine ready_two (.s (.s (.s .z))) (.s (.s (.s (.s (.s (.s .z)))))) (fun K hK=>?_) (fun K hK=>?_)
    ·go_simp
     refine (name_no g tv l en iv hF _ (k'+1) _ _ HA4.out.ps.drew (by omega) HE5.out).mono ?_
     rintro e w5 ⟨rfl,hb5⟩
     unfold wrongAt
     go_wp2_with fail
     exact⟨rfl,IPost.bad rfl ((Below.drew (H.out.low HA4.out.mv)).trans (hb5.mono (Nat.le_of_lt HA4.out.ps.lt)))⟩
    go_simp
    refine hK.out _ _ ?_ (fun hHeld2=>?_)
    ·go_keep
    (try simp only [Act.put,List.setIfInBounds_toArray,List.set_cons_zero,List.set_cons_succ])
    refine wpAnyH_ready (rs:=[3]) (by kernel_rfl) (by simp) ?_
    refine ready_nth (.s (.s (.s .z))) (fun K hK=>?_)
    go_simp
    refine (name_no g tv l en iv hF _ (k'+1) _ _ (HA4.out.ps.drew.alloc _) (by omega) HE5.out).mono ?_
    rintro e w5 ⟨rfl,hb5⟩
    unfold wrongAt
    go_wp2_with fail
    exact⟨rfl,IPost.bad rfl ((balloc (Below.drew (H.out.low HA4.out.mv)) (Nat.le_of_lt HA4.out.ps.lt)).trans (hb5.mono (Nat.le_of_lt (HA4.out.ps.drew.alloc _).lt)))⟩
   have hlt5:=kd_lt he5 (by simp)
   have HE5:=hid he5;clear he5
   have HR5:=hid hr5;clear hr5 HR3
   have tf1:=tok_field1
   have sc0_0:=HB4_0.out.cell 0
   have sc0_1:=HB4_0.out.cell 1
   have sc0_2:=HB4_0.out.cell 2
   have sl0:=HB4_0.out.lt
   go_wp2_with fail
   go_region_held3 (fun w'=>w'.cell? ⟨w2.heap.size,0,none⟩=some (.int .u8 (tg l k').kind)∧w'.cell? ⟨w2.heap.size,1,none⟩=some (.string (ofL (tx l k')))∧w'.cell? ⟨w2.heap.size,2,none⟩=some (.int .i64 (pl l en k')))
    (first | go_keep | (go_split_ands;refine⟨?_,?_,?_⟩ <;> assumption))
    (first
     | (go_at_call 202;(with_reducible refine (name_yes g tv l en iv hF _ (k'+1) _ _ HA4.out.ps.drew (by omega) HE5.out).mono ?_);rintro e w5 ⟨rfl,p5,m5⟩;unfold TokAt;have HA5:=hid (HA4.out.drew.step p5 m5);have bx5_0:=m5.blk HB4_0.out.drew (HA4.out.ps.drew.tag HB4_0.out.drew (by decide) (by decide)).1 (HA4.out.ps.drew.tag HB4_0.out.drew (by decide) (by decide)).2;have dc0_0:=bx5_0.cell 0;have dc0_1:=bx5_0.cell 1;have dc0_2:=bx5_0.cell 2;have dl0:=bx5_0.lt;have HY5_0:=hid bx5_0;clear bx5_0;have hz5:=HA5.out.mv.size;clear p5 m5)
     | (go_at_call 202;(with_reducible refine (name_yes g tv l en iv hF _ (k'+1) _ _ ((HA4.out.ps.alloc (.cells #[.int .i64 (av)] 3)).drew) (by omega) HE5.out).mono ?_);rintro e w5 ⟨rfl,p5,m5⟩;unfold TokAt;have HA5:=hid ((At.alloc HA4.out (.cells #[.int .i64 (av)] 3)).drew.step p5 m5);have HKD:=hid ((HA4.out.ps.alloc (.cells #[.int .i64 (av)] 3)).drew.kid_mv m5 (own_below (kid_one _ (av)) (Below.drew (Below.refl _ _))));have bx5_0:=m5.blk ((HB4_0.out.alloc (.cells #[.int .i64 (av)] 3)).drew) ((HA4.out.ps.alloc (.cells #[.int .i64 (av)] 3)).drew.tag ((HB4_0.out.alloc (.cells #[.int .i64 (av)] 3)).drew) (by decide) (by decide)).1 ((HA4.out.ps.alloc (.cells #[.int .i64 (av)] 3)).drew.tag ((HB4_0.out.alloc (.cells #[.int .i64 (av)] 3)).drew) (by decide) (by decide)).2;have dc0_0:=bx5_0.cell 0;have dc0_1:=bx5_0.cell 1;have dc0_2:=bx5_0.cell 2;have dl0:=bx5_0.lt;have HY5_0:=hid bx5_0;clear bx5_0;have hz5:=HA5.out.mv.size;clear p5 m5)
     | (go_at_call 204;have TA:=add_at g tv l en iv (nds (xs ++ ext)).length 22 (.int .u8 (tg l k').kind) (.string (ofL (tx l k'))) (pl l en k') (tx l (k'+1)) 0 _ [av] _ ((k'+1)+1) _ _ HA5.out.ps HKD.out HA5.out.len (by omega);(refine TA.mono ?_);clear TA;rintro e w6 ⟨rfl,nv6,p6,m6⟩;have by5_0:=m6.blk HY5_0.out (HA5.out.ps.tag HY5_0.out (by decide) (by decide)).1 (HA5.out.ps.tag HY5_0.out (by decide) (by decide)).2;have ec0_0:=by5_0.cell 0;have ec0_1:=by5_0.cell 1;have ec0_2:=by5_0.cell 2;clear by5_0;have HA6:=hid (HA5.out.add p6 m6 (by intro b hb;simp [Value.ownBlock] at hb;omega));clear p6 m6)
     | (go_at_call 204;have TA:=add_at g tv l en iv (nds (xs ++ ext)).length 22 (.int .u8 (tg l k').kind) (.string (ofL (tx l k'))) (pl l en k') (tx l (k'+1)) 0 _ [av] _ ((k'+1)+1) _ _ (HA5.out.ps.alloc (.cells #[.int .i64 (av)] 3)) (kid_one w5 (av)) HA5.out.len (by omega);(refine TA.mono ?_);clear TA;rintro e w6 ⟨rfl,nv6,p6,m6⟩;have by5_0:=m6.blk (HY5_0.out.alloc _) (HA5.out.ps.tag HY5_0.out (by decide) (by decide)).1 (HA5.out.ps.tag HY5_0.out (by decide) (by decide)).2;have ec0_0:=by5_0.cell 0;have ec0_1:=by5_0.cell 1;have ec0_2:=by5_0.cell 2;clear by5_0;have HA6:=hid ((At.alloc HA5.out _).add p6 m6 (by intro b hb;simp [Value.ownBlock] at hb;omega));clear p6 m6))
   all_goals
    go_wp2_with fail
    have hlen5:=HA6.out.len
    have HG5:=hid hlen5;clear hlen5
    refine⟨⟨f,((k'+1)+1),_,_,(((nds (xs ++ ext)).length:Nat):Int),rfl,by omega,by omega,by rw [HG5.out];simp only [List.length_append,List.length_singleton];omega,hid (by rw [HA6.out.ns];exact HR5.out),hid (by rw [HA6.out.ns];exact HWF.out.add (Ids.cons HIDN.out (Ids.nil _))),hid (by rw [HG5.out];simp only [List.length_append,List.length_singleton];omega),hid (by rw [HA6.out.ns];exact HA6.out)⟩,?_⟩
    rw [HMS.out,HA6.out.ps.toGo];omega
  ·skip
   have HE3:=hid he3;clear he3
   have HR3:=hid hr3;clear hr3
   go_wp2_with fail
   refine (has_no g tv l en iv hF [46] (.inr (by decide +kernel)) _ k' _ _ HA1002.out.ps (by omega) HE3.out).mono ?_
   rintro e w7 ⟨rfl,hb7⟩
   have HB7_0:=hid (HN2.out.below hb7 HN2.out.lt)
   clear HN2
   have HA7:=hid (HA1002.out.below hb7)
   clear HA1002
   clear hb7
   rcases if_split HR3.out with ⟨he8,hr8⟩ | ⟨he8,hr8⟩
   ·skip
    have hlt8:=tx_lt he8 (by simp)
    have HE8:=hid he8;clear he8
    have HR8:=hid hr8;clear hr8
    go_wp2_with fail
    refine (has_yes g tv l en iv hF [91] (.inr (by decide +kernel)) _ k' _ _ HA7.out.ps (by omega) HE8.out).mono ?_
    rintro e w9 ⟨rfl,p9,m9⟩
    have HB9_0:=hid (m9.blk HB7_0.out (HA7.out.ps.tag HB7_0.out (by decide) (by decide)).1 (HA7.out.ps.tag HB7_0.out (by decide) (by decide)).2)
    clear HB7_0
    have HA9:=hid (HA7.out.step p9 m9)
    clear HA7
    clear p9 m9
    rcases thn_split HR8.out with ⟨ks10,k10,ns10,hx10,hr10⟩ | ⟨kb10,hx10,rfl⟩
    rotate_left
    ·have HX10:=hid hx10;clear hx10
     go_wp2_with fail
     refine (C f (by omega) .expr rfl _ (k'+1) _ _ _ HA9.out.ps (by omega) (by rw [HA9.out.len];omega) (by rw [HA9.out.ns];exact HWF.out) (by rw [HA9.out.ns];exact HX10.out)).mono ?_
     rintro e w10 ⟨rfl,hb10⟩
     unfold wrongAt
     go_wp2_with fail
     exact⟨rfl,IPost.bad rfl ((H.out.low HA9.out.mv).trans hb10)⟩
    have HX10:=hid hx10;clear hx10
    have HR10:=hid hr10;clear hr10 HR8
    go_wp2_with fail
    refine (C f (by omega) .expr rfl _ (k'+1) _ _ _ HA9.out.ps (by omega) (by rw [HA9.out.len];omega) (by rw [HA9.out.ns];exact HWF.out) (by rw [HA9.out.ns];exact HX10.out)).mono ?_
    rintro e w10 ⟨rfl,ext10,nv10,ha10⟩
    have GO10:=hid (run_goes HX10.out (by omega) HWF.out (Ids.nil _) (by simp))
    have gl10:=GO10.out.lo;have gf10:=GO10.out.few;have ge10:=GO10.out.le;have gn10:=GO10.out.len
    simp only [Job.reads] at gl10
    have HB10_0:=hid (ha10.blk HA9.out.ps HB9_0.out (by decide) (by decide))
    clear HB9_0
    have HWF10:=hid GO10.out.wf
    have HA10:=hid (HA9.out.trans ha10)
    clear HA9
    clear ha10
    rcases need_split HR10.out with ⟨he11,hr11⟩ | ⟨he11,rfl⟩
    rotate_left
    ·have HE11:=hid he11;clear he11
     go_wp2_with fail
     refine (need_no g tv l en iv hF [93] (.inr (by decide +kernel)) _ k10 _ _ HA10.out.ps (by omega) HE11.out).mono ?_
     rintro e w11 ⟨rfl,hb11⟩
     unfold wrongAt
     go_wp2_with fail
     exact⟨rfl,IPost.bad rfl ((H.out.low HA10.out.mv).trans (hb11.mono (Nat.le_of_lt HA10.out.ps.lt)))⟩
    have HR11:=hid hr11;clear hr11 HR10
    have hlt11:=tx_lt he11 (by simp)
    have HE11:=hid he11;clear he11
    go_wp2_with fail
    refine (need_yes g tv l en iv hF [93] (.inr (by decide +kernel)) _ k10 _ _ HA10.out.ps (by omega) HE11.out).mono ?_
    rintro e w11 ⟨rfl,p11,m11⟩
    have HB11_0:=hid (m11.blk HB10_0.out (HA10.out.ps.tag HB10_0.out (by decide) (by decide)).1 (HA10.out.ps.tag HB10_0.out (by decide) (by decide)).2)
    clear HB10_0
    have HA11:=hid (HA10.out.step p11 m11)
    clear HA10
    clear p11 m11
    have sc0_0:=HB11_0.out.cell 0
    have sc0_1:=HB11_0.out.cell 1
    have sc0_2:=HB11_0.out.cell 2
    have sl0:=HB11_0.out.lt
    go_wp2_with fail
    refine (add_at g tv l en iv ns10.length 23 _ _ _ [] 0 _ [av,hd ks10] _ (k10+1) _ _ (HA11.out.alloc _).ps (kid_two _ _ _) HA11.out.len (by omega)).mono ?_
    rintro e w12 ⟨rfl,nv12,p12,m12⟩
    have hzz:=HA11.out.mv.size
    have HAF:=hid ((HA11.out.alloc _).add p12 m12 (by intro b hb;simp [Value.ownBlock] at hb;omega));clear p12 m12
    go_wp2_with fail
    have hlen5:=HAF.out.len
    have HG5:=hid hlen5;clear hlen5
    refine⟨⟨f,(k10+1),_,_,((ns10.length:Nat):Int),rfl,by omega,by omega,by rw [HG5.out];simp only [List.length_append,List.length_singleton];omega,hid (by rw [HAF.out.ns];exact HR11.out),hid (by rw [HAF.out.ns];exact HWF10.out.add (Ids.cons (by have:=HIDN.out;omega) (Ids.cons GO10.out.hd (Ids.nil _)))),hid (by rw [HG5.out];simp only [List.length_append,List.length_singleton];omega),hid (by rw [HAF.out.ns];exact HAF.out)⟩,?_⟩
    rw [HMS.out,HAF.out.ps.toGo];omega
   ·skip
    have HE8:=hid he8;clear he8
    have HR8:=hid hr8;clear hr8
    go_wp2_with fail
    refine (has_no g tv l en iv hF [91] (.inr (by decide +kernel)) _ k' _ _ HA7.out.ps (by omega) HE8.out).mono ?_
    rintro e w13 ⟨rfl,hb13⟩
    have HB13_0:=hid (HB7_0.out.below hb13 HB7_0.out.lt)
    clear HB7_0
    have HA13:=hid (HA7.out.below hb13)
    clear HA7
    clear hb13
    have HST:=hid (Option.some.inj HR8.out).symm
    go_wp2_with fail
    go_ret
    rw [HST.out]
    exact IPost.ok rfl HA13.out
end
end Go.Proofs.YthepmkjggfijoaaGreatDoor
namespace Go.Proofs.YthepmkjggfijoaaGreatDoor
open Go.RowKit Mist
section
variable {g:Nat} {tv:Value} {l:List Tok} {en:Int} {iv:Value} (hF:PF l)
include hF
theorem all_parts (m:Nat):(∀ f,f≤m→∀ j,isFn j=true→IC g tv l en iv f j)∧(∀ f,f≤m→∀ e,LC g tv l en iv f e):=by
 induction m with
 | zero =>
  constructor
  ·intro f hf j _ w k xs nv r _ _ _ _ hr
   obtain rfl:f=0:=by omega
   rw [run] at hr;cases hr
  ·intro f hf e w k xs nv r _ _ _ _ hr
   obtain rfl:f=0:=by omega
   rw [run] at hr;cases hr
 | succ m ih =>
  obtain⟨C,CL⟩:=ih
  have hL:∀ e,LC g tv l en iv (m+1) e:=by
   intro e
   cases e with
   | expr=>exact list_expr hF m fun f hf=>C f hf _ rfl
   | put=>exact list_put hF m fun f hf=>C f hf _ rfl
   | param=>exact list_param hF m fun f hf=>C f hf _ rfl
  have hI:∀ j,isFn j=true→IC g tv l en iv (m+1) j:=by
   intro j hj
   cases j with
   | expr=>exact part_expr hF m C CL
   | post=>exact part_post hF m C CL
   | atom=>exact part_atom hF m C CL
   | put=>exact part_put hF m C CL
   | param=>exact part_param hF m C CL
   | typ=>exact part_typ hF m C CL
   | lv v =>
    cases v with
    | or=>exact part_or hF m fun f hf=>C f hf _ rfl
    | and=>exact part_and hF m fun f hf=>C f hf _ rfl
    | not=>exact part_not hF m C CL
    | cmp=>exact part_cmp hF m fun f hf=>C f hf _ rfl
    | sum=>exact part_sum hF m fun f hf=>C f hf _ rfl
    | term=>exact part_term hF m fun f hf=>C f hf _ rfl
    | unary=>exact part_unary hF m C CL
   | tail _ _=>cases hj
   | postT _=>cases hj
   | list _=>cases hj
   | listT _ _=>cases hj
  constructor
  ·intro f hf j hj
   rcases Nat.lt_or_ge f (m+1) with h | h
   ·exact C f (by omega) j hj
   ·obtain rfl:f=m+1:=by omega
    exact hI j hj
  ·intro f hf e
   rcases Nat.lt_or_ge f (m+1) with h | h
   ·exact CL f (by omega) e
   ·obtain rfl:f=m+1:=by omega
    exact hL e
theorem parts_any (m:Nat) (j:Job) (hj:isFn j=true):IC g tv l en iv m j:=(all_parts hF m).1 m (Nat.le_refl _) j hj
theorem lists_any (m:Nat) (e:El):LC g tv l en iv m e:=(all_parts hF m).2 m (Nat.le_refl _) e
end
end Go.Proofs.YthepmkjggfijoaaGreatDoor
