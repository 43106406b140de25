/-
  PARTS of the proof: TQtyp, TQnamed.
-/
import Derived.Test.YthepmkjggfijoaaGreatDoorB08
set_option linter.all false
set_option maxRecDepth 100000
set_option maxHeartbeats 4000000
open Go.Lib (hid)
namespace Go.Proofs.YthepmkjggfijoaaGreatDoor
open Go.RowKit Mist
attribute [local go_sem] ofL_extract ofL_size ofL_get ofL_bytes ofL_append
section
variable {g:Nat} {tv:Value} {l:List Tok} {en:Int} {iv:Value} (hF:PF l)
include hF
theorem part_typ (m:Nat) (C:∀ f,f≤m→∀ j,isFn j=true→IC g tv l en iv f j) (CL:∀ f,f≤m→∀ e,LC g tv l en iv f e):IC g tv l en iv (m+1) .typ:=by
 intro w k xs nv r h hk hn hw hr
 have H:=hid h;clear h
 have HA0:=hid (At.refl H.out)
 have HW0:=hid hw;clear hw
 have hn0:(nds xs).length≤k:=by rw [nds_len];exact hn
 have hlen:=hF.len
 rw [run] at hr
 unfold jobFn
 go_enter Tryz.func207,Tryz.ntmps207
 have HR0:=hid hr;clear hr
 go_wp2_with fail
 refine (look_any g tv l en iv _ k _ _ HA0.out.ps (by omega) hlen).mono ?_
 rintro e w1 ⟨rfl,hb1⟩
 have HA1:=hid (HA0.out.below hb1)
 skip
 clear hb1
 have HN1:=hid (Blk.new w1 68 #[.int .u8 (tg l k).kind,.string (ofL (tx l k)),.int .i64 (pl l en k)])
 have HA1001:=hid (HA1.out.alloc (.cells #[.int .u8 (tg l k).kind,.string (ofL (tx l k)),.int .i64 (pl l en k)] 68))
 clear HA1
 rcases if_split HR0.out with ⟨he2,hr2⟩ | ⟨he2,hr2⟩
 ·skip
  have hlt2:=tx_lt he2 (by simp)
  have HE2:=hid he2;clear he2
  have HR2:=hid hr2;clear hr2
  go_wp2_with fail
  refine (has_yes g tv l en iv hF [105,110,116] (.inl (by decide +kernel)) _ k _ _ HA1001.out.ps (by omega) HE2.out).mono ?_
  rintro e w3 ⟨rfl,p3,m3⟩
  have HB3_0:=hid (m3.blk HN1.out (HA1001.out.ps.tag HN1.out (by decide) (by decide)).1 (HA1001.out.ps.tag HN1.out (by decide) (by decide)).2)
  clear HN1
  have HA3:=hid (HA1001.out.step p3 m3)
  clear HA1001
  clear p3 m3
  obtain rfl:=add_split HR2.out
  have sc0_0:=HB3_0.out.cell 0
  have sc0_1:=HB3_0.out.cell 1
  have sc0_2:=HB3_0.out.cell 2
  have sl0:=HB3_0.out.lt
  go_wp2_with fail
  refine (add_at g tv l en iv (nds xs).length 30 _ _ _ [] 0 _ [] _ (k+1) _ _ HA3.out.ps (KidRow.none_ _) HA3.out.len (by omega)).mono ?_
  rintro e w4 ⟨rfl,nv4,p4,m4⟩
  have HAF:=hid (HA3.out.add p4 m4 (by intro b hb;simp [Value.ownBlock] at hb));clear p4 m4
  go_wp2_with fail
  go_ret
  exact IPost.ok rfl HAF.out
 ·skip
  have HE2:=hid he2;clear he2
  have HR2:=hid hr2;clear hr2
  go_wp2_with fail
  refine (has_no g tv l en iv hF [105,110,116] (.inl (by decide +kernel)) _ k _ _ HA1001.out.ps (by omega) HE2.out).mono ?_
  rintro e w5 ⟨rfl,hb5⟩
  have HB5_0:=hid (HN1.out.below hb5 HN1.out.lt)
  clear HN1
  have HA5:=hid (HA1001.out.below hb5)
  clear HA1001
  clear hb5
  rcases if_split HR2.out with ⟨he6,hr6⟩ | ⟨he6,hr6⟩
  ·skip
   have hlt6:=tx_lt he6 (by simp)
   have HE6:=hid he6;clear he6
   have HR6:=hid hr6;clear hr6
   go_wp2_with fail
   refine (has_yes g tv l en iv hF [98,111,111,108] (.inl (by decide +kernel)) _ k _ _ HA5.out.ps (by omega) HE6.out).mono ?_
   rintro e w7 ⟨rfl,p7,m7⟩
   have HB7_0:=hid (m7.blk HB5_0.out (HA5.out.ps.tag HB5_0.out (by decide) (by decide)).1 (HA5.out.ps.tag HB5_0.out (by decide) (by decide)).2)
   clear HB5_0
   have HA7:=hid (HA5.out.step p7 m7)
   clear HA5
   clear p7 m7
   obtain rfl:=add_split HR6.out
   have sc0_0:=HB7_0.out.cell 0
   have sc0_1:=HB7_0.out.cell 1
   have sc0_2:=HB7_0.out.cell 2
   have sl0:=HB7_0.out.lt
   go_wp2_with fail
   refine (add_at g tv l en iv (nds xs).length 31 _ _ _ [] 0 _ [] _ (k+1) _ _ HA7.out.ps (KidRow.none_ _) HA7.out.len (by omega)).mono ?_
   rintro e w8 ⟨rfl,nv8,p8,m8⟩
   have HAF:=hid (HA7.out.add p8 m8 (by intro b hb;simp [Value.ownBlock] at hb));clear p8 m8
   go_wp2_with fail
   go_ret
   exact IPost.ok rfl HAF.out
  ·skip
   have HE6:=hid he6;clear he6
   have HR6:=hid hr6;clear hr6
   go_wp2_with fail
   refine (has_no g tv l en iv hF [98,111,111,108] (.inl (by decide +kernel)) _ k _ _ HA5.out.ps (by omega) HE6.out).mono ?_
   rintro e w9 ⟨rfl,hb9⟩
   have HB9_0:=hid (HB5_0.out.below hb9 HB5_0.out.lt)
   clear HB5_0
   have HA9:=hid (HA5.out.below hb9)
   clear HA5
   clear hb9
   rcases if_split HR6.out with ⟨he10,hr10⟩ | ⟨he10,hr10⟩
   ·skip
    have hlt10:=tx_lt he10 (by simp)
    have HE10:=hid he10;clear he10
    have HR10:=hid hr10;clear hr10
    go_wp2_with fail
    refine (has_yes g tv l en iv hF [91] (.inr (by decide +kernel)) _ k _ _ HA9.out.ps (by omega) HE10.out).mono ?_
    rintro e w11 ⟨rfl,p11,m11⟩
    have HB11_0:=hid (m11.blk HB9_0.out (HA9.out.ps.tag HB9_0.out (by decide) (by decide)).1 (HA9.out.ps.tag HB9_0.out (by decide) (by decide)).2)
    clear HB9_0
    have HA11:=hid (HA9.out.step p11 m11)
    clear HA9
    clear p11 m11
    rcases thn_split HR10.out with ⟨ks12,k12,ns12,hx12,hr12⟩ | ⟨kb12,hx12,rfl⟩
    rotate_left
    ·have HX12:=hid hx12;clear hx12
     go_wp2_with fail
     refine (C m (Nat.le_refl _) .typ rfl _ (k+1) _ _ _ HA11.out.ps (by omega) (by rw [HA11.out.len];omega) (by rw [HA11.out.ns];exact HW0.out) (by rw [HA11.out.ns];exact HX12.out)).mono ?_
     rintro e w12 ⟨rfl,hb12⟩
     unfold wrongAt
     go_wp2_with fail
     exact⟨rfl,IPost.bad rfl ((H.out.low HA11.out.mv).trans hb12)⟩
    have HX12:=hid hx12;clear hx12
    have HR12:=hid hr12;clear hr12 HR10
    go_wp2_with fail
    refine (C m (Nat.le_refl _) .typ rfl _ (k+1) _ _ _ HA11.out.ps (by omega) (by rw [HA11.out.len];omega) (by rw [HA11.out.ns];exact HW0.out) (by rw [HA11.out.ns];exact HX12.out)).mono ?_
    rintro e w12 ⟨rfl,ext12,nv12,ha12⟩
    have GO12:=hid (run_goes HX12.out (by omega) HW0.out (Ids.nil _) (by simp))
    have gl12:=GO12.out.lo;have gf12:=GO12.out.few;have ge12:=GO12.out.le;have gn12:=GO12.out.len
    simp only [Job.reads] at gl12
    have HB12_0:=hid (ha12.blk HA11.out.ps HB11_0.out (by decide) (by decide))
    clear HB11_0
    have HWF12:=hid GO12.out.wf
    have HA12:=hid (HA11.out.trans ha12)
    clear HA11
    clear ha12
    rcases need_split HR12.out with ⟨he13,hr13⟩ | ⟨he13,rfl⟩
    rotate_left
    ·have HE13:=hid he13;clear he13
     go_wp2_with fail
     refine (need_no g tv l en iv hF [59] (.inr (by decide +kernel)) _ k12 _ _ HA12.out.ps (by omega) HE13.out).mono ?_
     rintro e w13 ⟨rfl,hb13⟩
     unfold wrongAt
     go_wp2_with fail
     exact⟨rfl,IPost.bad rfl ((H.out.low HA12.out.mv).trans (hb13.mono (Nat.le_of_lt HA12.out.ps.lt)))⟩
    have HR13:=hid hr13;clear hr13 HR12
    have hlt13:=tx_lt he13 (by simp)
    have HE13:=hid he13;clear he13
    go_wp2_with fail
    refine (need_yes g tv l en iv hF [59] (.inr (by decide +kernel)) _ k12 _ _ HA12.out.ps (by omega) HE13.out).mono ?_
    rintro e w13 ⟨rfl,p13,m13⟩
    have HB13_0:=hid (m13.blk HB12_0.out (HA12.out.ps.tag HB12_0.out (by decide) (by decide)).1 (HA12.out.ps.tag HB12_0.out (by decide) (by decide)).2)
    clear HB12_0
    have HA13:=hid (HA12.out.step p13 m13)
    clear HA12
    clear p13 m13
    rcases needK_split HR13.out with ⟨he14,hr14⟩ | ⟨he14,rfl⟩
    rotate_left
    ·have HE14:=hid he14;clear he14
     go_wp2_with fail
     refine (number_no g tv l en iv hF _ (k12+1) _ _ HA13.out.ps (by omega) HE14.out).mono ?_
     rintro e w14 ⟨rfl,hb14⟩
     unfold wrongAt
     go_wp2_with fail
     exact⟨rfl,IPost.bad rfl ((H.out.low HA13.out.mv).trans (hb14.mono (Nat.le_of_lt HA13.out.ps.lt)))⟩
    have HR14:=hid hr14;clear hr14 HR13
    have hlt14:=kd_lt he14 (by simp)
    have HE14:=hid he14;clear he14
    go_wp2_with fail
    refine (number_yes g tv l en iv hF _ (k12+1) _ _ HA13.out.ps (by omega) HE14.out).mono ?_
    rintro e w14 ⟨rfl,p14,m14⟩
    have HB14_0:=hid (m14.blk HB13_0.out (HA13.out.ps.tag HB13_0.out (by decide) (by decide)).1 (HA13.out.ps.tag HB13_0.out (by decide) (by decide)).2)
    clear HB13_0
    have HA14:=hid (HA13.out.step p14 m14)
    clear HA13
    clear p14 m14
    unfold TokAt
    have HB1014_0:=hid (HB14_0.out.alloc (.cells #[.int .u8 (tg l (k12+1)).kind,.string (ofL (tx l (k12+1))),.int .i64 (pl l en (k12+1))] 68))
    clear HB14_0
    have HN14:=hid (Blk.new w14 68 #[.int .u8 (tg l (k12+1)).kind,.string (ofL (tx l (k12+1))),.int .i64 (pl l en (k12+1))])
    have HA1014:=hid (HA14.out.alloc (.cells #[.int .u8 (tg l (k12+1)).kind,.string (ofL (tx l (k12+1))),.int .i64 (pl l en (k12+1))] 68))
    clear HA14
    rcases need_split HR14.out with ⟨he15,hr15⟩ | ⟨he15,rfl⟩
    rotate_left
    ·have HE15:=hid he15;clear he15
     go_wp2_with fail
     refine (need_no g tv l en iv hF [93] (.inr (by decide +kernel)) _ ((k12+1)+1) _ _ HA1014.out.ps (by omega) HE15.out).mono ?_
     rintro e w15 ⟨rfl,hb15⟩
     unfold wrongAt
     go_wp2_with fail
     exact⟨rfl,IPost.bad rfl ((H.out.low HA1014.out.mv).trans (hb15.mono (Nat.le_of_lt HA1014.out.ps.lt)))⟩
    have HR15:=hid hr15;clear hr15 HR14
    have hlt15:=tx_lt he15 (by simp)
    have HE15:=hid he15;clear he15
    go_wp2_with fail
    refine (need_yes g tv l en iv hF [93] (.inr (by decide +kernel)) _ ((k12+1)+1) _ _ HA1014.out.ps (by omega) HE15.out).mono ?_
    rintro e w15 ⟨rfl,p15,m15⟩
    have HB15_0:=hid (m15.blk HB1014_0.out (HA1014.out.ps.tag HB1014_0.out (by decide) (by decide)).1 (HA1014.out.ps.tag HB1014_0.out (by decide) (by decide)).2)
    have HB15_1:=hid (m15.blk HN14.out (HA1014.out.ps.tag HN14.out (by decide) (by decide)).1 (HA1014.out.ps.tag HN14.out (by decide) (by decide)).2)
    clear HB1014_0 HN14
    have HA15:=hid (HA1014.out.step p15 m15)
    clear HA1014
    clear p15 m15
    obtain rfl:=add_split HR15.out
    have sc0_0:=HB15_0.out.cell 0
    have sc0_1:=HB15_0.out.cell 1
    have sc0_2:=HB15_0.out.cell 2
    have sl0:=HB15_0.out.lt
    go_wp2_with fail
    refine (add_at g tv l en iv ns12.length 33 _ _ _ [] ((numOf (tx l (k12+1)):Nat):Int) _ [hd ks12] _ (((k12+1)+1)+1) _ _ (HA15.out.alloc _).ps (kid_one _ _) HA15.out.len (by omega)).mono ?_
    rintro e w16 ⟨rfl,nv16,p16,m16⟩
    have HAF:=hid ((HA15.out.alloc _).add p16 m16 (by intro b hb;simp [Value.ownBlock] at hb;have:=HA15.out.mv.size;omega));clear p16 m16
    go_wp2_with fail
    go_ret
    exact IPost.ok rfl HAF.out
   ·skip
    have HE10:=hid he10;clear he10
    have HR10:=hid hr10;clear hr10
    go_wp2_with fail
    refine (has_no g tv l en iv hF [91] (.inr (by decide +kernel)) _ k _ _ HA9.out.ps (by omega) HE10.out).mono ?_
    rintro e w17 ⟨rfl,hb17⟩
    have HB17_0:=hid (HB9_0.out.below hb17 HB9_0.out.lt)
    clear HB9_0
    have HA17:=hid (HA9.out.below hb17)
    clear HA9
    clear hb17
    rcases needK_split HR10.out with ⟨he18,hr18⟩ | ⟨he18,rfl⟩
    rotate_left
    ·have HE18:=hid he18;clear he18
     have sc0_0:=HB17_0.out.cell 0
     have sc0_1:=HB17_0.out.cell 1
     have sc0_2:=HB17_0.out.cell 2
     have sl0:=HB17_0.out.lt
     go_wp2_with fail
     refine wp_region_held_drew (S:=fun w'=>w'.cell? ⟨w1.heap.size,0,none⟩=some (.int .u8 (tg l k).kind)∧w'.cell? ⟨w1.heap.size,1,none⟩=some (.string (ofL (tx l k)))∧w'.cell? ⟨w1.heap.size,2,none⟩=some (.int .i64 (pl l en k))) (by kernel_rfl) ⟨sc0_0,sc0_1,sc0_2⟩ (fun hHeld=>?_)
     refine take_nth (i:=0) .z (by kernel_rfl) (by kernel_rfl) (by kernel_rfl) (fun _ _ _ h=>h) (v:=?_) ⟨by rfl,?_⟩ hHeld ?_
     rotate_left
     ·(intro w0 hSw;(try dsimp only at hSw);go_split_ands;go_simp;try with_reducible rfl)
     simp only [Act.put,List.setIfInBounds_toArray,List.set_cons_zero,List.set_cons_succ]
     refine take_nth (i:=1) (.s .z) (by kernel_rfl) (by kernel_rfl) (by kernel_rfl) (fun _ _ _ h=>h) (v:=?_) ⟨by rfl,?_⟩ hHeld ?_
     rotate_left
     ·(intro w0 hSw;(try dsimp only at hSw);go_split_ands;go_simp;try with_reducible rfl)
     simp only [Act.put,List.setIfInBounds_toArray,List.set_cons_zero,List.set_cons_succ]
     refine take_nth (i:=2) (.s (.s .z)) (by kernel_rfl) (by kernel_rfl) (by kernel_rfl) (fun _ _ _ h=>h) (v:=?_) ⟨by rfl,?_⟩ hHeld ?_
     rotate_left
     ·(intro w0 hSw;(try dsimp only at hSw);go_split_ands;go_simp;try with_reducible rfl)
     simp only [Act.put,List.setIfInBounds_toArray,List.set_cons_zero,List.set_cons_succ]
     refine wpAnyH_ready (rs:=[3]) (by kernel_rfl) (by simp) ?_
     refine ready_nth (.s (.s (.s .z))) (fun K hK=>?_)
     go_simp
     refine (name_no g tv l en iv hF _ k _ _ HA17.out.ps.drew (by omega) HE18.out).mono ?_
     rintro e w18 ⟨rfl,hb18⟩
     unfold wrongAt
     go_wp2_with fail
     exact⟨rfl,IPost.bad rfl ((Below.drew (H.out.low HA17.out.mv)).trans (hb18.mono (Nat.le_of_lt HA17.out.ps.lt)))⟩
    have hlt18:=kd_lt he18 (by simp)
    have HE18:=hid he18;clear he18
    have HR18:=hid hr18;clear hr18 HR10
    have tf1:=tok_field1
    have sc0_0:=HB17_0.out.cell 0
    have sc0_1:=HB17_0.out.cell 1
    have sc0_2:=HB17_0.out.cell 2
    have sl0:=HB17_0.out.lt
    go_wp2_with fail
    go_region_held3 (fun w'=>w'.cell? ⟨w1.heap.size,0,none⟩=some (.int .u8 (tg l k).kind)∧w'.cell? ⟨w1.heap.size,1,none⟩=some (.string (ofL (tx l k)))∧w'.cell? ⟨w1.heap.size,2,none⟩=some (.int .i64 (pl l en k)))
     (first | go_keep | (go_split_ands;refine⟨?_,?_,?_⟩ <;> assumption))
     (first
      | (go_at_call 202;refine (name_yes g tv l en iv hF _ k _ _ HA17.out.ps.drew (by omega) HE18.out).mono ?_;rintro e w18 ⟨rfl,p18,m18⟩;unfold TokAt;have HA18:=hid (HA17.out.drew.step p18 m18);have bx18_0:=m18.blk HB17_0.out.drew (HA17.out.ps.drew.tag HB17_0.out.drew (by decide) (by decide)).1 (HA17.out.ps.drew.tag HB17_0.out.drew (by decide) (by decide)).2;have dc0_0:=bx18_0.cell 0;have dc0_1:=bx18_0.cell 1;have dc0_2:=bx18_0.cell 2;have dl0:=bx18_0.lt;have HY18_0:=hid bx18_0;clear bx18_0;have hz18:=HA18.out.mv.size;clear p18 m18)
      | (go_at_call 204;refine (add_at g tv l en iv (nds xs).length 32 _ _ _ (tx l k) 0 _ [] _ (k+1) _ _ (HA18.out.ps) (KidRow.none_ _) HA18.out.len (by omega)).mono ?_;rintro e w19 ⟨rfl,nv19,p19,m19⟩;have by18_0:=m19.blk (HY18_0.out) (HA18.out.ps.tag HY18_0.out (by decide) (by decide)).1 (HA18.out.ps.tag HY18_0.out (by decide) (by decide)).2;have ec0_0:=by18_0.cell 0;have ec0_1:=by18_0.cell 1;have ec0_2:=by18_0.cell 2;clear by18_0;have HA19:=hid ((HA18.out).add p19 m19 (by intro b hb;simp [Value.ownBlock] at hb));clear p19 m19))
    all_goals
     obtain rfl:=add_split HR18.out
     go_wp2_with fail
     go_ret
     exact IPost.ok rfl HA19.out
end
end Go.Proofs.YthepmkjggfijoaaGreatDoor
namespace Go.Proofs.YthepmkjggfijoaaGreatDoor
open Go.RowKit Mist
attribute [local go_sem] ofL_extract ofL_size ofL_get ofL_bytes ofL_append
section
variable {g:Nat} {tv:Value} {l:List Tok} {en:Int} {iv:Value} (hF:PF l)
include hF
theorem named_any (m:Nat) (CL:∀ f,f≤m→∀ e,LC g tv l en iv f e) (w:World) (k:Nat) (xs:List NV) (nv:Value) (r:Res) (h:PS g tv l en iv w (k+1) xs nv) (hk:k+1≤l.length) (hn:xs.length≤k+1) (hw:Wf (nds xs))
  (hr:(if tx l (k+1)=[40] then
    if tx l (k+2)=[41] then add ⟨21,tx l k,0,[],pl l en k⟩ (k+3) (nds xs)
    else thn (run l en m (.list .expr) (k+2) (nds xs)) fun ks k1 ns1=>need l [41] k1 <| add ⟨21,tx l k,0,ks,pl l en k⟩ (k1+1) ns1
   else if tx l (k+1)=[123] then
    thn (run l en m (.list .put) (k+2) (nds xs)) fun ks k1 ns1=>need l [125] k1 <| add ⟨24,tx l k,0,ks,pl l en k⟩ (k1+1) ns1
   else add ⟨3,tx l k,0,[],pl l en k⟩ (k+1) (nds xs))=some r) :
  Calls Tryz.prog 259 #[.pointer (some ⟨g,0,none⟩),.agg #[.int .u8 (tg l k).kind,.string (ofL (tx l k)),.int .i64 (pl l en k)]] w (IPost g tv l en iv w xs nv r):=by
 have H:=hid h;clear h
 have HAI:=hid ((At.refl H.out).alloc (.cells #[.int .u8 (tg l k).kind,.string (ofL (tx l k)),.int .i64 (pl l en k)] 68))
 have HBI:=hid (Blk.new w 68 #[.int .u8 (tg l k).kind,.string (ofL (tx l k)),.int .i64 (pl l en k)])
 have HW0:=hid hw;clear hw
 have hn0:(nds xs).length≤k+1:=by rw [nds_len];exact hn
 have hlen:=hF.len
 have HR0:=hid hr;clear hr
 go_enter Tryz.func259,Tryz.ntmps259
 rcases if_split HR0.out with ⟨he1,hr1⟩ | ⟨he1,hr1⟩
 ·skip
  have hlt1:=tx_lt he1 (by simp)
  have HE1:=hid he1;clear he1
  have HR1:=hid hr1;clear hr1
  go_wp2_with fail
  refine (has_yes g tv l en iv hF [40] (.inr (by decide +kernel)) _ (k+1) _ _ HAI.out.ps (by omega) HE1.out).mono ?_
  rintro e w2 ⟨rfl,p2,m2⟩
  have HB2_0:=hid (m2.blk HBI.out (HAI.out.ps.tag HBI.out (by decide) (by decide)).1 (HAI.out.ps.tag HBI.out (by decide) (by decide)).2)
  clear HBI
  have HA2:=hid (HAI.out.step p2 m2)
  clear HAI
  clear p2 m2
  rcases if_split HR1.out with ⟨he3,hr3⟩ | ⟨he3,hr3⟩
  ·skip
   have hlt3:=tx_lt he3 (by simp)
   have HE3:=hid he3;clear he3
   have HR3:=hid hr3;clear hr3
   go_wp2_with fail
   refine (is_any [41] (.inr (by decide +kernel)) g tv l en iv _ ((k+1)+1) _ _ (HA2.out.alloc _).ps (by omega) hlen hF.kind _ _ 9 (0,0) (heap_alloc_new _ _) true (by simp [HE3.out])).mono ?_
   rintro e w4 ⟨rfl,hb4⟩
   have HB4_0:=hid ((HB2_0.out.alloc (.cells #[.string (ofL [41])] 9)).below hb4 (HB2_0.out.alloc (.cells #[.string (ofL [41])] 9)).lt)
   clear HB2_0
   have HA4:=hid ((HA2.out.alloc (.cells #[.string (ofL [41])] 9)).below hb4)
   clear HA2
   clear hb4
   go_wp2_with fail
   refine (need_yes g tv l en iv hF [41] (.inr (by decide +kernel)) _ ((k+1)+1) _ _ HA4.out.ps (by omega) HE3.out).mono ?_
   rintro e w5 ⟨rfl,p5,m5⟩
   have HB5_0:=hid (m5.blk HB4_0.out (HA4.out.ps.tag HB4_0.out (by decide) (by decide)).1 (HA4.out.ps.tag HB4_0.out (by decide) (by decide)).2)
   clear HB4_0
   have HA5:=hid (HA4.out.step p5 m5)
   clear HA4
   clear p5 m5
   obtain rfl:=add_split HR3.out
   have sc0_0:=HB5_0.out.cell 0
   have sc0_1:=HB5_0.out.cell 1
   have sc0_2:=HB5_0.out.cell 2
   have sl0:=HB5_0.out.lt
   go_wp2_with fail
   refine (add_at g tv l en iv (nds xs).length 21 _ _ _ (tx l k) 0 _ [] _ (((k+1)+1)+1) _ _ HA5.out.ps (KidRow.none_ _) HA5.out.len (by omega)).mono ?_
   rintro e w6 ⟨rfl,nv6,p6,m6⟩
   have HAF:=hid (HA5.out.add p6 m6 (by intro b hb;simp [Value.ownBlock] at hb));clear p6 m6
   go_wp2_with fail
   go_ret
   exact IPost.ok rfl HAF.out
  ·skip
   have HE3:=hid he3;clear he3
   have HR3:=hid hr3;clear hr3
   go_wp2_with fail
   refine (is_any [41] (.inr (by decide +kernel)) g tv l en iv _ ((k+1)+1) _ _ (HA2.out.alloc _).ps (by omega) hlen hF.kind _ _ 9 (0,0) (heap_alloc_new _ _) false (by simp [HE3.out])).mono ?_
   rintro e w7 ⟨rfl,hb7⟩
   have HB7_0:=hid ((HB2_0.out.alloc (.cells #[.string (ofL [41])] 9)).below hb7 (HB2_0.out.alloc (.cells #[.string (ofL [41])] 9)).lt)
   clear HB2_0
   have HA7:=hid ((HA2.out.alloc (.cells #[.string (ofL [41])] 9)).below hb7)
   clear HA2
   clear hb7
   rcases thn_split HR3.out with ⟨ks8,k8,ns8,hx8,hr8⟩ | ⟨kb8,hx8,rfl⟩
   rotate_left
   ·have HX8:=hid hx8;clear hx8
    go_wp2_with fail
    refine (CL m (Nat.le_refl _) .expr _ ((k+1)+1) _ _ _ HA7.out.ps (by omega) (by rw [HA7.out.len];omega) (by rw [HA7.out.ns];exact HW0.out) (by rw [HA7.out.ns];exact HX8.out)).mono ?_
    rintro e w8 ⟨rfl,hb8⟩
    unfold wrongAt
    go_wp2_with fail
    exact⟨rfl,IPost.bad rfl ((H.out.low HA7.out.mv).trans hb8)⟩
   have HX8:=hid hx8;clear hx8
   have HR8:=hid hr8;clear hr8 HR3
   go_wp2_with fail
   refine (CL m (Nat.le_refl _) .expr _ ((k+1)+1) _ _ _ HA7.out.ps (by omega) (by rw [HA7.out.len];omega) (by rw [HA7.out.ns];exact HW0.out) (by rw [HA7.out.ns];exact HX8.out)).mono ?_
   rintro e w8 ⟨v8,ext8,nv8,rfl,ho8,ha8,hd8⟩
   have HV8:=hid (own_base (base':=w.heap.size) ho8 (fun b hb=>Nat.le_trans HA7.out.mv.size (ho8.lt b hb).1));clear ho8 hd8
   have GO8:=hid (run_goes HX8.out (by omega) HW0.out (Ids.nil _) (by simp))
   have gl8:=GO8.out.lo;have gf8:=GO8.out.few;have ge8:=GO8.out.le;have gn8:=GO8.out.len
   simp only [Job.reads] at gl8
   have HB8_0:=hid (ha8.blk HA7.out.ps HB7_0.out (by decide) (by decide))
   clear HB7_0
   have HWF8:=hid GO8.out.wf
   have HA8:=hid (HA7.out.trans ha8)
   clear HA7
   clear ha8
   rcases need_split HR8.out with ⟨he9,hr9⟩ | ⟨he9,rfl⟩
   rotate_left
   ·have HE9:=hid he9;clear he9
    go_wp2_with fail
    refine (need_no g tv l en iv hF [41] (.inr (by decide +kernel)) _ k8 _ _ HA8.out.ps (by omega) HE9.out).mono ?_
    rintro e w9 ⟨rfl,hb9⟩
    unfold wrongAt
    go_wp2_with fail
    exact⟨rfl,IPost.bad rfl ((H.out.low HA8.out.mv).trans (hb9.mono (Nat.le_of_lt HA8.out.ps.lt)))⟩
   have HR9:=hid hr9;clear hr9 HR8
   have hlt9:=tx_lt he9 (by simp)
   have HE9:=hid he9;clear he9
   go_wp2_with fail
   refine (need_yes g tv l en iv hF [41] (.inr (by decide +kernel)) _ k8 _ _ HA8.out.ps (by omega) HE9.out).mono ?_
   rintro e w9 ⟨rfl,p9,m9⟩
   have HB9_0:=hid (m9.blk HB8_0.out (HA8.out.ps.tag HB8_0.out (by decide) (by decide)).1 (HA8.out.ps.tag HB8_0.out (by decide) (by decide)).2)
   clear HB8_0
   have HV9_0:=hid (HA8.out.ps.row_mv m9 HV8.out (by decide) (by decide))
   clear HV8
   have HA9:=hid (HA8.out.step p9 m9)
   clear HA8
   clear p9 m9
   obtain rfl:=add_split HR9.out
   have sc0_0:=HB9_0.out.cell 0
   have sc0_1:=HB9_0.out.cell 1
   have sc0_2:=HB9_0.out.cell 2
   have sl0:=HB9_0.out.lt
   go_wp2_with fail
   refine (add_at g tv l en iv ns8.length 21 _ _ _ (tx l k) 0 _ ks8 _ (k8+1) _ _ HA9.out.ps (own_base HV9_0.out (fun _ _=>Nat.zero_le _)) HA9.out.len (by omega)).mono ?_
   rintro e w10 ⟨rfl,nv10,p10,m10⟩
   have HAF:=hid (HA9.out.add p10 m10 (fun b hb=>(HV9_0.out.lt b hb).1));clear p10 m10
   go_wp2_with fail
   go_ret
   exact IPost.ok rfl HAF.out
 ·skip
  have HE1:=hid he1;clear he1
  have HR1:=hid hr1;clear hr1
  go_wp2_with fail
  refine (has_no g tv l en iv hF [40] (.inr (by decide +kernel)) _ (k+1) _ _ HAI.out.ps (by omega) HE1.out).mono ?_
  rintro e w11 ⟨rfl,hb11⟩
  have HB11_0:=hid (HBI.out.below hb11 HBI.out.lt)
  clear HBI
  have HA11:=hid (HAI.out.below hb11)
  clear HAI
  clear hb11
  rcases if_split HR1.out with ⟨he12,hr12⟩ | ⟨he12,hr12⟩
  ·skip
   have hlt12:=tx_lt he12 (by simp)
   have HE12:=hid he12;clear he12
   have HR12:=hid hr12;clear hr12
   go_wp2_with fail
   refine (has_yes g tv l en iv hF [123] (.inr (by decide +kernel)) _ (k+1) _ _ HA11.out.ps (by omega) HE12.out).mono ?_
   rintro e w13 ⟨rfl,p13,m13⟩
   have HB13_0:=hid (m13.blk HB11_0.out (HA11.out.ps.tag HB11_0.out (by decide) (by decide)).1 (HA11.out.ps.tag HB11_0.out (by decide) (by decide)).2)
   clear HB11_0
   have HA13:=hid (HA11.out.step p13 m13)
   clear HA11
   clear p13 m13
   rcases thn_split HR12.out with ⟨ks14,k14,ns14,hx14,hr14⟩ | ⟨kb14,hx14,rfl⟩
   rotate_left
   ·have HX14:=hid hx14;clear hx14
    go_wp2_with fail
    refine (CL m (Nat.le_refl _) .put _ ((k+1)+1) _ _ _ HA13.out.ps (by omega) (by rw [HA13.out.len];omega) (by rw [HA13.out.ns];exact HW0.out) (by rw [HA13.out.ns];exact HX14.out)).mono ?_
    rintro e w14 ⟨rfl,hb14⟩
    unfold wrongAt
    go_wp2_with fail
    exact⟨rfl,IPost.bad rfl ((H.out.low HA13.out.mv).trans hb14)⟩
   have HX14:=hid hx14;clear hx14
   have HR14:=hid hr14;clear hr14 HR12
   go_wp2_with fail
   refine (CL m (Nat.le_refl _) .put _ ((k+1)+1) _ _ _ HA13.out.ps (by omega) (by rw [HA13.out.len];omega) (by rw [HA13.out.ns];exact HW0.out) (by rw [HA13.out.ns];exact HX14.out)).mono ?_
   rintro e w14 ⟨v14,ext14,nv14,rfl,ho14,ha14,hd14⟩
   have HV14:=hid (own_base (base':=w.heap.size) ho14 (fun b hb=>Nat.le_trans HA13.out.mv.size (ho14.lt b hb).1));clear ho14 hd14
   have GO14:=hid (run_goes HX14.out (by omega) HW0.out (Ids.nil _) (by simp))
   have gl14:=GO14.out.lo;have gf14:=GO14.out.few;have ge14:=GO14.out.le;have gn14:=GO14.out.len
   simp only [Job.reads] at gl14
   have HB14_0:=hid (ha14.blk HA13.out.ps HB13_0.out (by decide) (by decide))
   clear HB13_0
   have HWF14:=hid GO14.out.wf
   have HA14:=hid (HA13.out.trans ha14)
   clear HA13
   clear ha14
   rcases need_split HR14.out with ⟨he15,hr15⟩ | ⟨he15,rfl⟩
   rotate_left
   ·have HE15:=hid he15;clear he15
    go_wp2_with fail
    refine (need_no g tv l en iv hF [125] (.inr (by decide +kernel)) _ k14 _ _ HA14.out.ps (by omega) HE15.out).mono ?_
    rintro e w15 ⟨rfl,hb15⟩
    unfold wrongAt
    go_wp2_with fail
    exact⟨rfl,IPost.bad rfl ((H.out.low HA14.out.mv).trans (hb15.mono (Nat.le_of_lt HA14.out.ps.lt)))⟩
   have HR15:=hid hr15;clear hr15 HR14
   have hlt15:=tx_lt he15 (by simp)
   have HE15:=hid he15;clear he15
   go_wp2_with fail
   refine (need_yes g tv l en iv hF [125] (.inr (by decide +kernel)) _ k14 _ _ HA14.out.ps (by omega) HE15.out).mono ?_
   rintro e w15 ⟨rfl,p15,m15⟩
   have HB15_0:=hid (m15.blk HB14_0.out (HA14.out.ps.tag HB14_0.out (by decide) (by decide)).1 (HA14.out.ps.tag HB14_0.out (by decide) (by decide)).2)
   clear HB14_0
   have HV15_0:=hid (HA14.out.ps.row_mv m15 HV14.out (by decide) (by decide))
   clear HV14
   have HA15:=hid (HA14.out.step p15 m15)
   clear HA14
   clear p15 m15
   obtain rfl:=add_split HR15.out
   have sc0_0:=HB15_0.out.cell 0
   have sc0_1:=HB15_0.out.cell 1
   have sc0_2:=HB15_0.out.cell 2
   have sl0:=HB15_0.out.lt
   go_wp2_with fail
   refine (add_at g tv l en iv ns14.length 24 _ _ _ (tx l k) 0 _ ks14 _ (k14+1) _ _ HA15.out.ps (own_base HV15_0.out (fun _ _=>Nat.zero_le _)) HA15.out.len (by omega)).mono ?_
   rintro e w16 ⟨rfl,nv16,p16,m16⟩
   have HAF:=hid (HA15.out.add p16 m16 (fun b hb=>(HV15_0.out.lt b hb).1));clear p16 m16
   go_wp2_with fail
   go_ret
   exact IPost.ok rfl HAF.out
  ·skip
   have HE12:=hid he12;clear he12
   have HR12:=hid hr12;clear hr12
   go_wp2_with fail
   refine (has_no g tv l en iv hF [123] (.inr (by decide +kernel)) _ (k+1) _ _ HA11.out.ps (by omega) HE12.out).mono ?_
   rintro e w17 ⟨rfl,hb17⟩
   have HB17_0:=hid (HB11_0.out.below hb17 HB11_0.out.lt)
   clear HB11_0
   have HA17:=hid (HA11.out.below hb17)
   clear HA11
   clear hb17
   obtain rfl:=add_split HR12.out
   have sc0_0:=HB17_0.out.cell 0
   have sc0_1:=HB17_0.out.cell 1
   have sc0_2:=HB17_0.out.cell 2
   have sl0:=HB17_0.out.lt
   go_wp2_with fail
   refine (add_at g tv l en iv (nds xs).length 3 _ _ _ (tx l k) 0 _ [] _ (k+1) _ _ HA17.out.ps (KidRow.none_ _) HA17.out.len (by omega)).mono ?_
   rintro e w18 ⟨rfl,nv18,p18,m18⟩
   have HAF:=hid (HA17.out.add p18 m18 (by intro b hb;simp [Value.ownBlock] at hb));clear p18 m18
   go_wp2_with fail
   go_ret
   exact IPost.ok rfl HAF.out
end
end Go.Proofs.YthepmkjggfijoaaGreatDoor
