/-
  PARTS of the proof: TSput, TSparam, TQnot, TQunary.
-/
import Derived.Test.YthepmkjggfijoaaGreatDoorB08
set_option linter.all false
set_option maxRecDepth 100000
set_option maxHeartbeats 4000000
open Go.Lib (hid)
namespace Go.Proofs.YthepmkjggfijoaaGreatDoor
open Go.RowKit Mist
attribute [local go_sem] ofL_extract ofL_size ofL_get ofL_bytes ofL_append
section
variable {g:Nat} {tv:Value} {l:List Tok} {en:Int} {iv:Value} (hF:PF l)
include hF
theorem list_put (m:Nat) (C:∀ f,f≤m→IC g tv l en iv f El.put.job):LC g tv l en iv (m+1) .put:=by
 intro w k xs nv r h hk hn hw hr
 have HC:=hid C;clear C
 have H:=hid h;clear h
 have HW:=hid hw;clear hw
 have HR:=hid (show thn (run l en m El.put.job k (nds xs)) (fun a k1 ns1=>run l en m (.listT .put [hd a]) k1 ns1)=some r by rw [run] at hr;exact hr);clear hr
 have hlen:=hF.len
 obtain⟨i0,hi0,hz0,hz1,hz2⟩:=info_parts int_info
 unfold elFn
 go_enter Tryz.func205,Tryz.ntmps205
 go_wp2_with fail
 rcases hx:run l en m El.put.job k (nds xs) with _ | x
 ·have:=HR.out;rw [hx] at this;cases this
 have HX:=hid hx;clear hx
 have HR2:=hid (show thn (some x) (fun a k1 ns1=>run l en m (.listT .put [hd a]) k1 ns1)=some r by have:=HR.out;rwa [HX.out] at this)
 clear HR
 cases x with
 | bad kb =>
  obtain rfl:Res.bad kb=r:=Option.some.inj HR2.out
  refine (HC.out m (Nat.le_refl _) _ k xs nv _ H.out hk hn HW.out HX.out).mono ?_
  rintro e w1 ⟨rfl,hb⟩
  unfold wrongAt
  go_wp2_with fail
  exact⟨rfl,LPost.bad rfl hb⟩
 | ok ks k1 ns1 =>
  have GO:=hid (run_goes HX.out hk HW.out (Ids.nil _) (by simp [El.job]))
  refine (HC.out m (Nat.le_refl _) _ k xs nv _ H.out hk hn HW.out HX.out).mono ?_
  rintro e w1 ⟨rfl,ext,nv1,ha⟩
  have HA:=hid ha;clear ha
  have HR3:=hid (show run l en m (.listT .put [hd ks]) k1 (nds (xs ++ ext))=some r by rw [HA.out.ns];exact HR2.out)
  clear HR2 HX
  have hk1:=GO.out.le
  have hf1:=GO.out.few
  have hg1:=GO.out.lo
  simp only [Job.reads,El.job] at hg1
  rw [nds_len] at hf1
  have hl1:=HA.out.len
  have HWF:=hid (show Wf (nds (xs ++ ext)) by rw [HA.out.ns];exact GO.out.wf)
  have HID:=hid (show Ids [hd ks] (xs ++ ext).length by rw [hl1];exact Ids.cons GO.out.hd (Ids.nil _))
  have hcn:(xs ++ ext).length≤k1:=by omega
  have hsz:=HA.out.mv.size
  have HOW:=hid (show (w1.alloc (.cells #[.int .i64 (hd ks)] 3)).ownsRow w.heap.size 3 1 (.slice (some ⟨w1.heap.size,0,none⟩) 1 1) 1 (intCells [hd ks]) from World.ownsRow_lit w1 _ 1 hsz (by simp [maxLen]) rfl)
  have HNE:=hid (show ∀ x ∈ ext,x.2.ownBlock=none∨x.2.ownBlock ≠ (Value.slice (some ⟨w1.heap.size,0,none⟩) 1 1).ownBlock from fun x hx=>HA.out.ps.kid_new hx (Nat.le_refl _))
  have HA1:=hid (HA.out.alloc (.cells #[.int .i64 (hd ks)] 3))
  have hk0:1≤k1:=by omega
  clear hl1 hf1 GO HA hg1
  obtain⟨av,hav⟩:∃ av,av=hd ks:=⟨_,rfl⟩
  rw [← hav] at HR3 HID HOW HA1 ⊢
  clear hav
  have HNS:=hid HA1.out.ns
  go_wp2_with fail
  go_loopw [5] (fun v wr=>∃ (f k':Nat) (ext:List NV) (nv':Value) (acc:List Int) (q:Nat),f≤m∧k'≤l.length∧(xs ++ ext).length≤k'∧q≤k'∧Hid (acc.length=q)∧0 < q∧Hid (run l en f (.listT .put acc) k' (nds (xs ++ ext))=some r)∧Hid (Wf (nds (xs ++ ext)))∧Hid (Ids acc (xs ++ ext).length) ∧
    Hid (At g tv l en iv w xs nv k' (nds (xs ++ ext)) wr ext nv')∧wr.ownsRow w.heap.size 3 1 v q (intCells acc)∧Hid (∀ x ∈ ext,x.2.ownBlock=none∨x.2.ownBlock ≠ v.ownBlock)) (fun _ wr=>toGo g l.length wr)
  case atStart=>exact⟨m,k1,ext,nv1,[av],1,Nat.le_refl _,hk1,hcn,hk0,hid rfl,by omega,HR3,HWF,HID,by rw [HNS.out];exact HA1,HOW.out,HNE⟩
  case round =>
   clear HA1 HOW HNE HR3 HWF HID hcn hk1 HNS hk0
   obtain⟨f,k',ext,nv',acc,q,hfm,hk',hn',hq',HQ,hq0,HRT,HWF,HID,HA,hown,HNE⟩:=hrel
   obtain⟨f,rfl⟩:∃ f0,f=f0+1:=⟨f - 1,by
    rcases Nat.eq_zero_or_pos f with h | h
    ·subst h;have:=HRT.out;rw [run] at this;cases this
    ·omega⟩
   have HMS:=hid (HA.out.ps.toGo (n:=l.length))
   obtain⟨A5,c5,rfl⟩:=own_form hown
   have HOW:=hid hown;clear hown
   by_cases hc:tx l k'=[44]
   case neg =>
    have HST:=hid (show r=.ok acc k' (nds (xs ++ ext)) by have:=HRT.out;rw [run,if_neg hc] at this;exact (Option.some.inj this).symm)
    go_wp2_with fail
    refine (has_no g tv l en iv hF [44] (.inr (by decide +kernel)) _ k' _ nv' HA.out.ps hk' hc).mono ?_
    rintro e w2 ⟨rfl,hb2⟩
    have HA2:=hid (HA.out.below hb2)
    have HO2:=hid (own_below HOW.out hb2);clear hb2
    go_wp2_with fail
    go_ret
    rw [HST.out]
    exact LPost.ok rfl (by rw [HQ.out];exact HO2.out) HA2.out HNE.out
   case pos =>
    have hkl:=tx_lt hc (by simp)
    have HGO:=hid (show thn (run l en f El.put.job (k'+1) (nds (xs ++ ext))) (fun a k1 ns1=>run l en f (.listT .put (acc ++ [hd a])) k1 ns1)=some r by have:=HRT.out;rw [run,if_pos hc] at this;exact this)
    go_wp2_with fail
    refine (has_yes g tv l en iv hF [44] (.inr (by decide +kernel)) _ k' _ nv' HA.out.ps hk' hc).mono ?_
    rintro e w2 ⟨rfl,p2,m2⟩
    have HA2:=hid (HA.out.step p2 m2)
    have HO2:=hid (HA.out.ps.row_mv m2 HOW.out (by decide) (by decide));clear p2 m2
    clear hc HRT
    go_wp2_with fail
    rcases hx:run l en f El.put.job (k'+1) (nds (xs ++ ext)) with _ | x
    ·have:=HGO.out;rw [hx] at this;cases this
    have HX:=hid hx;clear hx
    have HG2:=hid (show thn (some x) (fun a k1 ns1=>run l en f (.listT .put (acc ++ [hd a])) k1 ns1)=some r by have:=HGO.out;rw [HX.out] at this;exact this)
    clear HGO
    cases x with
    | bad kb =>
     obtain rfl:Res.bad kb=r:=Option.some.inj HG2.out
     have HLOW:=hid (H.out.low HA2.out.mv)
     refine (HC.out f (by omega) _ (k'+1) (xs ++ ext) nv' _ HA2.out.ps (by omega) (by omega) HWF.out HX.out).mono ?_
     rintro e w4 ⟨rfl,hb4⟩
     unfold wrongAt
     go_wp2_with fail
     exact⟨rfl,LPost.bad rfl (HLOW.out.trans hb4)⟩
    | ok kb k1 ns1 =>
     have GO:=hid (run_goes HX.out (by omega) HWF.out (Ids.nil _) (by simp [El.job]))
     refine (HC.out f (by omega) _ (k'+1) (xs ++ ext) nv' _ HA2.out.ps (by omega) (by omega) HWF.out HX.out).mono ?_
     rintro e w4 ⟨rfl,ext4,nv4,ha4⟩
     have HA4:=hid ha4;clear ha4
     have HO4:=hid (HA2.out.ps.row_mv HA4.out.mv HO2.out (by decide) (by decide))
     have HA34:=hid (HA2.out.trans HA4.out)
     have hsz4:=HA34.out.mv.size
     have HN4:=hid (show ∀ x ∈ ext ++ ext4,x.2.ownBlock=none∨x.2.ownBlock ≠ (Value.slice A5 q c5).ownBlock from fun x hx=>by
      rcases List.mem_append.1 hx with hx | hx
      ·exact HNE.out x hx
      ·exact fresh_ne HA4.out.fresh hx (fun b hb=>(HO2.out.lt b hb).2))
     have g1:=GO.out.lo
     have g2:=GO.out.few
     have g3:=GO.out.le
     have g4:=HA34.out.len
     have g5:=GO.out.len
     simp only [nds_len] at g2 g5
     simp only [Job.reads,El.job] at g1
     have hqm:q+1≤100000:=by omega
     have HG4:=hid g4;clear g4
     go_wp2_with (at_builtin
                  refine wpList_append_lies _ rfl (.tmp 12) (.tmp 16) 24 rfl w.heap.size 3 i0 _ 1 8 Tryz.underlying24 hi0 hz0 hz1 hz2 rfl (by decide) _ q (intCells acc) rfl
                    (HO4.out.alloc _) ⟨w4.heap.size,0,none⟩ 1 1 [.int .i64 (hd kb)] rfl rfl (cells_new _ _ _) (by intro u hu;simp at hu;subst hu;rfl) (by omega) (by simp only [maxLen];omega) (by omega) (by simp;omega) (w4.heap.size+1) (by simp) ?_
                  intro gg cap w5 hown2 hg5 hat5 hgl)
     have HA5:=hid ((HA34.out.alloc (.cells #[.int .i64 (hd kb)] 3)).grown H.out HO4.out (by decide) hg5 HN4.out)
     have HAT:=hid hat5;clear hat5
     have HGR:=hid hg5;clear hg5
     refine⟨⟨f,k1,ext ++ ext4,nv4,acc ++ [hd kb],q+1,by omega,g3,by rw [HG4.out];omega,by omega,hid (by rw [List.length_append,HQ.out];rfl),by omega,hid (by rw [HA34.out.ns];exact HG2.out),hid (by rw [HA34.out.ns];exact GO.out.wf),hid (by rw [HG4.out];exact (HID.out.mono g5).app (Ids.cons GO.out.hd (Ids.nil _))),
      hid (by rw [HA34.out.ns];exact HA5.out),by rw [intCells_append];exact hown2,hid (fun x hx=>?_)⟩,?_⟩
     ·show x.2.ownBlock=none∨x.2.ownBlock ≠ some gg
      rcases HAT.out with e | e
      ·rw [← e];exact HN4.out x hx
      ·rcases h9:x.2.ownBlock with _ | b
       ·exact .inl rfl
       ·right
        intro e2
        injection e2 with e2
        have:=(World.ownsRow.lt (HA34.out.ps.kids x (List.mem_append_right _ hx)) b h9).2
        omega
     ·rw [HMS.out,HA5.out.ps.toGo];omega
end
end Go.Proofs.YthepmkjggfijoaaGreatDoor
namespace Go.Proofs.YthepmkjggfijoaaGreatDoor
open Go.RowKit Mist
attribute [local go_sem] ofL_extract ofL_size ofL_get ofL_bytes ofL_append
section
variable {g:Nat} {tv:Value} {l:List Tok} {en:Int} {iv:Value} (hF:PF l)
include hF
theorem list_param (m:Nat) (C:∀ f,f≤m→IC g tv l en iv f El.param.job):LC g tv l en iv (m+1) .param:=by
 intro w k xs nv r h hk hn hw hr
 have HC:=hid C;clear C
 have H:=hid h;clear h
 have HW:=hid hw;clear hw
 have HR:=hid (show thn (run l en m El.param.job k (nds xs)) (fun a k1 ns1=>run l en m (.listT .param [hd a]) k1 ns1)=some r by rw [run] at hr;exact hr);clear hr
 have hlen:=hF.len
 obtain⟨i0,hi0,hz0,hz1,hz2⟩:=info_parts int_info
 unfold elFn
 go_enter Tryz.func205,Tryz.ntmps205
 go_wp2_with fail
 rcases hx:run l en m El.param.job k (nds xs) with _ | x
 ·have:=HR.out;rw [hx] at this;cases this
 have HX:=hid hx;clear hx
 have HR2:=hid (show thn (some x) (fun a k1 ns1=>run l en m (.listT .param [hd a]) k1 ns1)=some r by have:=HR.out;rwa [HX.out] at this)
 clear HR
 cases x with
 | bad kb =>
  obtain rfl:Res.bad kb=r:=Option.some.inj HR2.out
  refine (HC.out m (Nat.le_refl _) _ k xs nv _ H.out hk hn HW.out HX.out).mono ?_
  rintro e w1 ⟨rfl,hb⟩
  unfold wrongAt
  go_wp2_with fail
  exact⟨rfl,LPost.bad rfl hb⟩
 | ok ks k1 ns1 =>
  have GO:=hid (run_goes HX.out hk HW.out (Ids.nil _) (by simp [El.job]))
  refine (HC.out m (Nat.le_refl _) _ k xs nv _ H.out hk hn HW.out HX.out).mono ?_
  rintro e w1 ⟨rfl,ext,nv1,ha⟩
  have HA:=hid ha;clear ha
  have HR3:=hid (show run l en m (.listT .param [hd ks]) k1 (nds (xs ++ ext))=some r by rw [HA.out.ns];exact HR2.out)
  clear HR2 HX
  have hk1:=GO.out.le
  have hf1:=GO.out.few
  have hg1:=GO.out.lo
  simp only [Job.reads,El.job] at hg1
  rw [nds_len] at hf1
  have hl1:=HA.out.len
  have HWF:=hid (show Wf (nds (xs ++ ext)) by rw [HA.out.ns];exact GO.out.wf)
  have HID:=hid (show Ids [hd ks] (xs ++ ext).length by rw [hl1];exact Ids.cons GO.out.hd (Ids.nil _))
  have hcn:(xs ++ ext).length≤k1:=by omega
  have hsz:=HA.out.mv.size
  have HOW:=hid (show (w1.alloc (.cells #[.int .i64 (hd ks)] 3)).ownsRow w.heap.size 3 1 (.slice (some ⟨w1.heap.size,0,none⟩) 1 1) 1 (intCells [hd ks]) from World.ownsRow_lit w1 _ 1 hsz (by simp [maxLen]) rfl)
  have HNE:=hid (show ∀ x ∈ ext,x.2.ownBlock=none∨x.2.ownBlock ≠ (Value.slice (some ⟨w1.heap.size,0,none⟩) 1 1).ownBlock from fun x hx=>HA.out.ps.kid_new hx (Nat.le_refl _))
  have HA1:=hid (HA.out.alloc (.cells #[.int .i64 (hd ks)] 3))
  have hk0:1≤k1:=by omega
  clear hl1 hf1 GO HA hg1
  obtain⟨av,hav⟩:∃ av,av=hd ks:=⟨_,rfl⟩
  rw [← hav] at HR3 HID HOW HA1 ⊢
  clear hav
  have HNS:=hid HA1.out.ns
  go_wp2_with fail
  go_loopw [5] (fun v wr=>∃ (f k':Nat) (ext:List NV) (nv':Value) (acc:List Int) (q:Nat),f≤m∧k'≤l.length∧(xs ++ ext).length≤k'∧q≤k'∧Hid (acc.length=q)∧0 < q∧Hid (run l en f (.listT .param acc) k' (nds (xs ++ ext))=some r)∧Hid (Wf (nds (xs ++ ext)))∧Hid (Ids acc (xs ++ ext).length) ∧
    Hid (At g tv l en iv w xs nv k' (nds (xs ++ ext)) wr ext nv')∧wr.ownsRow w.heap.size 3 1 v q (intCells acc)∧Hid (∀ x ∈ ext,x.2.ownBlock=none∨x.2.ownBlock ≠ v.ownBlock)) (fun _ wr=>toGo g l.length wr)
  case atStart=>exact⟨m,k1,ext,nv1,[av],1,Nat.le_refl _,hk1,hcn,hk0,hid rfl,by omega,HR3,HWF,HID,by rw [HNS.out];exact HA1,HOW.out,HNE⟩
  case round =>
   clear HA1 HOW HNE HR3 HWF HID hcn hk1 HNS hk0
   obtain⟨f,k',ext,nv',acc,q,hfm,hk',hn',hq',HQ,hq0,HRT,HWF,HID,HA,hown,HNE⟩:=hrel
   obtain⟨f,rfl⟩:∃ f0,f=f0+1:=⟨f - 1,by
    rcases Nat.eq_zero_or_pos f with h | h
    ·subst h;have:=HRT.out;rw [run] at this;cases this
    ·omega⟩
   have HMS:=hid (HA.out.ps.toGo (n:=l.length))
   obtain⟨A5,c5,rfl⟩:=own_form hown
   have HOW:=hid hown;clear hown
   by_cases hc:tx l k'=[44]
   case neg =>
    have HST:=hid (show r=.ok acc k' (nds (xs ++ ext)) by have:=HRT.out;rw [run,if_neg hc] at this;exact (Option.some.inj this).symm)
    go_wp2_with fail
    refine (has_no g tv l en iv hF [44] (.inr (by decide +kernel)) _ k' _ nv' HA.out.ps hk' hc).mono ?_
    rintro e w2 ⟨rfl,hb2⟩
    have HA2:=hid (HA.out.below hb2)
    have HO2:=hid (own_below HOW.out hb2);clear hb2
    go_wp2_with fail
    go_ret
    rw [HST.out]
    exact LPost.ok rfl (by rw [HQ.out];exact HO2.out) HA2.out HNE.out
   case pos =>
    have hkl:=tx_lt hc (by simp)
    have HGO:=hid (show thn (run l en f El.param.job (k'+1) (nds (xs ++ ext))) (fun a k1 ns1=>run l en f (.listT .param (acc ++ [hd a])) k1 ns1)=some r by have:=HRT.out;rw [run,if_pos hc] at this;exact this)
    go_wp2_with fail
    refine (has_yes g tv l en iv hF [44] (.inr (by decide +kernel)) _ k' _ nv' HA.out.ps hk' hc).mono ?_
    rintro e w2 ⟨rfl,p2,m2⟩
    have HA2:=hid (HA.out.step p2 m2)
    have HO2:=hid (HA.out.ps.row_mv m2 HOW.out (by decide) (by decide));clear p2 m2
    clear hc HRT
    go_wp2_with fail
    rcases hx:run l en f El.param.job (k'+1) (nds (xs ++ ext)) with _ | x
    ·have:=HGO.out;rw [hx] at this;cases this
    have HX:=hid hx;clear hx
    have HG2:=hid (show thn (some x) (fun a k1 ns1=>run l en f (.listT .param (acc ++ [hd a])) k1 ns1)=some r by have:=HGO.out;rw [HX.out] at this;exact this)
    clear HGO
    cases x with
    | bad kb =>
     obtain rfl:Res.bad kb=r:=Option.some.inj HG2.out
     have HLOW:=hid (H.out.low HA2.out.mv)
     refine (HC.out f (by omega) _ (k'+1) (xs ++ ext) nv' _ HA2.out.ps (by omega) (by omega) HWF.out HX.out).mono ?_
     rintro e w4 ⟨rfl,hb4⟩
     unfold wrongAt
     go_wp2_with fail
     exact⟨rfl,LPost.bad rfl (HLOW.out.trans hb4)⟩
    | ok kb k1 ns1 =>
     have GO:=hid (run_goes HX.out (by omega) HWF.out (Ids.nil _) (by simp [El.job]))
     refine (HC.out f (by omega) _ (k'+1) (xs ++ ext) nv' _ HA2.out.ps (by omega) (by omega) HWF.out HX.out).mono ?_
     rintro e w4 ⟨rfl,ext4,nv4,ha4⟩
     have HA4:=hid ha4;clear ha4
     have HO4:=hid (HA2.out.ps.row_mv HA4.out.mv HO2.out (by decide) (by decide))
     have HA34:=hid (HA2.out.trans HA4.out)
     have hsz4:=HA34.out.mv.size
     have HN4:=hid (show ∀ x ∈ ext ++ ext4,x.2.ownBlock=none∨x.2.ownBlock ≠ (Value.slice A5 q c5).ownBlock from fun x hx=>by
      rcases List.mem_append.1 hx with hx | hx
      ·exact HNE.out x hx
      ·exact fresh_ne HA4.out.fresh hx (fun b hb=>(HO2.out.lt b hb).2))
     have g1:=GO.out.lo
     have g2:=GO.out.few
     have g3:=GO.out.le
     have g4:=HA34.out.len
     have g5:=GO.out.len
     simp only [nds_len] at g2 g5
     simp only [Job.reads,El.job] at g1
     have hqm:q+1≤100000:=by omega
     have HG4:=hid g4;clear g4
     go_wp2_with (at_builtin
                  refine wpList_append_lies _ rfl (.tmp 12) (.tmp 16) 24 rfl w.heap.size 3 i0 _ 1 8 Tryz.underlying24 hi0 hz0 hz1 hz2 rfl (by decide) _ q (intCells acc) rfl
                    (HO4.out.alloc _) ⟨w4.heap.size,0,none⟩ 1 1 [.int .i64 (hd kb)] rfl rfl (cells_new _ _ _) (by intro u hu;simp at hu;subst hu;rfl) (by omega) (by simp only [maxLen];omega) (by omega) (by simp;omega) (w4.heap.size+1) (by simp) ?_
                  intro gg cap w5 hown2 hg5 hat5 hgl)
     have HA5:=hid ((HA34.out.alloc (.cells #[.int .i64 (hd kb)] 3)).grown H.out HO4.out (by decide) hg5 HN4.out)
     have HAT:=hid hat5;clear hat5
     have HGR:=hid hg5;clear hg5
     refine⟨⟨f,k1,ext ++ ext4,nv4,acc ++ [hd kb],q+1,by omega,g3,by rw [HG4.out];omega,by omega,hid (by rw [List.length_append,HQ.out];rfl),by omega,hid (by rw [HA34.out.ns];exact HG2.out),hid (by rw [HA34.out.ns];exact GO.out.wf),hid (by rw [HG4.out];exact (HID.out.mono g5).app (Ids.cons GO.out.hd (Ids.nil _))),
      hid (by rw [HA34.out.ns];exact HA5.out),by rw [intCells_append];exact hown2,hid (fun x hx=>?_)⟩,?_⟩
     ·show x.2.ownBlock=none∨x.2.ownBlock ≠ some gg
      rcases HAT.out with e | e
      ·rw [← e];exact HN4.out x hx
      ·rcases h9:x.2.ownBlock with _ | b
       ·exact .inl rfl
       ·right
        intro e2
        injection e2 with e2
        have:=(World.ownsRow.lt (HA34.out.ps.kids x (List.mem_append_right _ hx)) b h9).2
        omega
     ·rw [HMS.out,HA5.out.ps.toGo];omega
end
end Go.Proofs.YthepmkjggfijoaaGreatDoor
namespace Go.Proofs.YthepmkjggfijoaaGreatDoor
open Go.RowKit Mist
attribute [local go_sem] ofL_extract ofL_size ofL_get ofL_bytes ofL_append
section
variable {g:Nat} {tv:Value} {l:List Tok} {en:Int} {iv:Value} (hF:PF l)
include hF
theorem part_not (m:Nat) (C:∀ f,f≤m→∀ j,isFn j=true→IC g tv l en iv f j) (CL:∀ f,f≤m→∀ e,LC g tv l en iv f e):IC g tv l en iv (m+1) (.lv .not):=by
 intro w k xs nv r h hk hn hw hr
 have H:=hid h;clear h
 have HA0:=hid (At.refl H.out)
 have HW0:=hid hw;clear hw
 have hn0:(nds xs).length≤k:=by rw [nds_len];exact hn
 have hlen:=hF.len
 rw [run] at hr
 unfold jobFn
 go_enter Tryz.func238,Tryz.ntmps238
 have HR0:=hid hr;clear hr
 go_wp2_with fail
 refine (look_any g tv l en iv _ k _ _ HA0.out.ps (by omega) hlen).mono ?_
 rintro e w1 ⟨rfl,hb1⟩
 have HA1:=hid (HA0.out.below hb1)
 skip
 clear hb1
 have HN1:=hid (Blk.new w1 68 #[.int .u8 (tg l k).kind,.string (ofL (tx l k)),.int .i64 (pl l en k)])
 have HA1001:=hid (HA1.out.alloc (.cells #[.int .u8 (tg l k).kind,.string (ofL (tx l k)),.int .i64 (pl l en k)] 68))
 clear HA1
 rcases if_split HR0.out with ⟨he2,hr2⟩ | ⟨he2,hr2⟩
 ·skip
  have hlt2:=tx_lt he2 (by simp)
  have HE2:=hid he2;clear he2
  have HR2:=hid hr2;clear hr2
  go_wp2_with fail
  refine (has_yes g tv l en iv hF [110,111,116] (.inl (by decide +kernel)) _ k _ _ HA1001.out.ps (by omega) HE2.out).mono ?_
  rintro e w3 ⟨rfl,p3,m3⟩
  have HB3_0:=hid (m3.blk HN1.out (HA1001.out.ps.tag HN1.out (by decide) (by decide)).1 (HA1001.out.ps.tag HN1.out (by decide) (by decide)).2)
  clear HN1
  have HA3:=hid (HA1001.out.step p3 m3)
  clear HA1001
  clear p3 m3
  rcases thn_split HR2.out with ⟨ks4,k4,ns4,hx4,hr4⟩ | ⟨kb4,hx4,rfl⟩
  rotate_left
  ·have HX4:=hid hx4;clear hx4
   have sc0_0:=HB3_0.out.cell 0
   have sc0_1:=HB3_0.out.cell 1
   have sc0_2:=HB3_0.out.cell 2
   have sl0:=HB3_0.out.lt
   go_wp2_with fail
   refine wp_region_held_drew (S:=fun w'=>w'.cell? ⟨w1.heap.size,0,none⟩=some (.int .u8 (tg l k).kind)∧w'.cell? ⟨w1.heap.size,1,none⟩=some (.string (ofL (tx l k)))∧w'.cell? ⟨w1.heap.size,2,none⟩=some (.int .i64 (pl l en k))) (by kernel_rfl) ⟨sc0_0,sc0_1,sc0_2⟩ (fun hHeld=>?_)
   refine take_nth (i:=0) .z (by kernel_rfl) (by kernel_rfl) (by kernel_rfl) (fun _ _ _ h=>h) (v:=?_) ⟨by rfl,?_⟩ hHeld ?_
   rotate_left
   ·(intro w0 hSw;(try dsimp only at hSw);go_split_ands;go_simp;try with_reducible rfl)
   simp only [Act.put,List.setIfInBounds_toArray,List.set_cons_zero,List.set_cons_succ]
   refine take_nth (i:=1) (.s .z) (by kernel_rfl) (by kernel_rfl) (by kernel_rfl) (fun _ _ _ h=>h) (v:=?_) ⟨by rfl,?_⟩ hHeld ?_
   rotate_left
   ·(intro w0 hSw;(try dsimp only at hSw);go_split_ands;go_simp;try with_reducible rfl)
   simp only [Act.put,List.setIfInBounds_toArray,List.set_cons_zero,List.set_cons_succ]
   refine take_nth (i:=2) (.s (.s .z)) (by kernel_rfl) (by kernel_rfl) (by kernel_rfl) (fun _ _ _ h=>h) (v:=?_) ⟨by rfl,?_⟩ hHeld ?_
   rotate_left
   ·(intro w0 hSw;(try dsimp only at hSw);go_split_ands;go_simp;try with_reducible rfl)
   simp only [Act.put,List.setIfInBounds_toArray,List.set_cons_zero,List.set_cons_succ]
   refine wpAnyH_ready (rs:=[3]) (by kernel_rfl) (by simp) ?_
   refine ready_nth (.s (.s (.s .z))) (fun K hK=>?_)
   go_simp
   refine (C m (Nat.le_refl _) (.lv .not) rfl _ (k+1) _ _ _ HA3.out.ps.drew (by omega) (by rw [HA3.out.len];omega) (by rw [HA3.out.ns];exact HW0.out) (by rw [HA3.out.ns];exact HX4.out)).mono ?_
   rintro e w4 ⟨rfl,hb4⟩
   unfold wrongAt
   go_wp2_with fail
   exact⟨rfl,IPost.bad rfl ((Below.drew (H.out.low HA3.out.mv)).trans hb4)⟩
  have HX4:=hid hx4;clear hx4
  have HR4:=hid hr4;clear hr4 HR2
  have GO4:=hid (run_goes HX4.out (by omega) HW0.out (Ids.nil _) (by simp))
  have gl4:=GO4.out.lo;have gf4:=GO4.out.few;have ge4:=GO4.out.le;have gn4:=GO4.out.len
  simp only [Job.reads] at gl4
  have sc0_0:=HB3_0.out.cell 0
  have sc0_1:=HB3_0.out.cell 1
  have sc0_2:=HB3_0.out.cell 2
  have sl0:=HB3_0.out.lt
  go_wp2_with fail
  go_region_held3 (fun w'=>w'.cell? ⟨w1.heap.size,0,none⟩=some (.int .u8 (tg l k).kind)∧w'.cell? ⟨w1.heap.size,1,none⟩=some (.string (ofL (tx l k)))∧w'.cell? ⟨w1.heap.size,2,none⟩=some (.int .i64 (pl l en k)))
   (first | go_keep | (go_split_ands;refine⟨?_,?_,?_⟩ <;> assumption))
   (first
    | (go_at_call 238;refine (C m (Nat.le_refl _) (.lv .not) rfl _ (k+1) _ _ _ HA3.out.ps.drew (by omega) (by rw [HA3.out.len];omega) (by rw [HA3.out.ns];exact HW0.out) (by rw [HA3.out.ns];exact HX4.out)).mono ?_;rintro e w4 ⟨rfl,ext4,nv4,ha4⟩;have HA4:=hid (HA3.out.drew.trans ha4);have bx4_0:=ha4.blk HA3.out.ps.drew HB3_0.out.drew (by decide) (by decide);have dc0_0:=bx4_0.cell 0;have dc0_1:=bx4_0.cell 1;have dc0_2:=bx4_0.cell 2;have dl0:=bx4_0.lt;have HY4_0:=hid bx4_0;clear bx4_0;have hz4:=HA4.out.mv.size;clear ha4)
    | (go_at_call 204;refine (add_at g tv l en iv ns4.length 5 _ _ _ [] 0 _ [hd ks4] _ k4 _ _ (HA4.out.ps.alloc _) (kid_one w4 (hd ks4)) HA4.out.len (by omega)).mono ?_;rintro e w5 ⟨rfl,nv5,p5,m5⟩;have by4_0:=m5.blk (HY4_0.out.alloc _) (HA4.out.ps.tag HY4_0.out (by decide) (by decide)).1 (HA4.out.ps.tag HY4_0.out (by decide) (by decide)).2;have ec0_0:=by4_0.cell 0;have ec0_1:=by4_0.cell 1;have ec0_2:=by4_0.cell 2;clear by4_0;have HA5:=hid ((At.alloc HA4.out _).add p5 m5 (by intro b hb;simp [Value.ownBlock] at hb;omega));clear p5 m5))
  all_goals
   obtain rfl:=add_split HR4.out
   go_wp2_with fail
   go_ret
   exact IPost.ok rfl HA5.out
 ·skip
  have HE2:=hid he2;clear he2
  have HR2:=hid hr2;clear hr2
  go_wp2_with fail
  refine (has_no g tv l en iv hF [110,111,116] (.inl (by decide +kernel)) _ k _ _ HA1001.out.ps (by omega) HE2.out).mono ?_
  rintro e w6 ⟨rfl,hb6⟩
  have HB6_0:=hid (HN1.out.below hb6 HN1.out.lt)
  clear HN1
  have HA6:=hid (HA1001.out.below hb6)
  clear HA1001
  clear hb6
  have HX:=hid HR2.out
  go_wp2_with fail
  have HQ:=hid (C m (Nat.le_refl _) (.lv .cmp) rfl _ k _ _ r HA6.out.ps (by omega) (by rw [HA6.out.len];omega) (by rw [HA6.out.ns];exact HW0.out) (by rw [HA6.out.ns];exact HX.out))
  cases r with
  | bad kb =>
   refine HQ.out.mono ?_
   rintro e wq ⟨rfl,hbq⟩
   unfold wrongAt
   go_wp2_with fail
   exact⟨rfl,IPost.bad rfl ((H.out.low HA6.out.mv).trans hbq)⟩
  | ok ksq kq nsq =>
   refine HQ.out.mono ?_
   rintro e wq ⟨rfl,extq,nvq,haq⟩
   have HAQ:=hid (HA6.out.trans haq);clear haq
   go_wp2_with fail
   go_ret
   exact IPost.ok rfl HAQ.out
end
end Go.Proofs.YthepmkjggfijoaaGreatDoor
namespace Go.Proofs.YthepmkjggfijoaaGreatDoor
open Go.RowKit Mist
attribute [local go_sem] ofL_extract ofL_size ofL_get ofL_bytes ofL_append
section
variable {g:Nat} {tv:Value} {l:List Tok} {en:Int} {iv:Value} (hF:PF l)
include hF
theorem part_unary (m:Nat) (C:∀ f,f≤m→∀ j,isFn j=true→IC g tv l en iv f j) (CL:∀ f,f≤m→∀ e,LC g tv l en iv f e):IC g tv l en iv (m+1) (.lv .unary):=by
 intro w k xs nv r h hk hn hw hr
 have H:=hid h;clear h
 have HA0:=hid (At.refl H.out)
 have HW0:=hid hw;clear hw
 have hn0:(nds xs).length≤k:=by rw [nds_len];exact hn
 have hlen:=hF.len
 rw [run] at hr
 unfold jobFn
 go_enter Tryz.func256,Tryz.ntmps256
 have HR0:=hid hr;clear hr
 go_wp2_with fail
 refine (look_any g tv l en iv _ k _ _ HA0.out.ps (by omega) hlen).mono ?_
 rintro e w1 ⟨rfl,hb1⟩
 have HA1:=hid (HA0.out.below hb1)
 skip
 clear hb1
 have HN1:=hid (Blk.new w1 68 #[.int .u8 (tg l k).kind,.string (ofL (tx l k)),.int .i64 (pl l en k)])
 have HA1001:=hid (HA1.out.alloc (.cells #[.int .u8 (tg l k).kind,.string (ofL (tx l k)),.int .i64 (pl l en k)] 68))
 clear HA1
 rcases if_split HR0.out with ⟨he2,hr2⟩ | ⟨he2,hr2⟩
 ·skip
  have hlt2:=tx_lt he2 (by simp)
  have HE2:=hid he2;clear he2
  have HR2:=hid hr2;clear hr2
  go_wp2_with fail
  refine (has_yes g tv l en iv hF [45] (.inr (by decide +kernel)) _ k _ _ HA1001.out.ps (by omega) HE2.out).mono ?_
  rintro e w3 ⟨rfl,p3,m3⟩
  have HB3_0:=hid (m3.blk HN1.out (HA1001.out.ps.tag HN1.out (by decide) (by decide)).1 (HA1001.out.ps.tag HN1.out (by decide) (by decide)).2)
  clear HN1
  have HA3:=hid (HA1001.out.step p3 m3)
  clear HA1001
  clear p3 m3
  rcases thn_split HR2.out with ⟨ks4,k4,ns4,hx4,hr4⟩ | ⟨kb4,hx4,rfl⟩
  rotate_left
  ·have HX4:=hid hx4;clear hx4
   have sc0_0:=HB3_0.out.cell 0
   have sc0_1:=HB3_0.out.cell 1
   have sc0_2:=HB3_0.out.cell 2
   have sl0:=HB3_0.out.lt
   go_wp2_with fail
   refine wp_region_held_drew (S:=fun w'=>w'.cell? ⟨w1.heap.size,0,none⟩=some (.int .u8 (tg l k).kind)∧w'.cell? ⟨w1.heap.size,1,none⟩=some (.string (ofL (tx l k)))∧w'.cell? ⟨w1.heap.size,2,none⟩=some (.int .i64 (pl l en k))) (by kernel_rfl) ⟨sc0_0,sc0_1,sc0_2⟩ (fun hHeld=>?_)
   refine take_nth (i:=0) .z (by kernel_rfl) (by kernel_rfl) (by kernel_rfl) (fun _ _ _ h=>h) (v:=?_) ⟨by rfl,?_⟩ hHeld ?_
   rotate_left
   ·(intro w0 hSw;(try dsimp only at hSw);go_split_ands;go_simp;try with_reducible rfl)
   simp only [Act.put,List.setIfInBounds_toArray,List.set_cons_zero,List.set_cons_succ]
   refine take_nth (i:=1) (.s .z) (by kernel_rfl) (by kernel_rfl) (by kernel_rfl) (fun _ _ _ h=>h) (v:=?_) ⟨by rfl,?_⟩ hHeld ?_
   rotate_left
   ·(intro w0 hSw;(try dsimp only at hSw);go_split_ands;go_simp;try with_reducible rfl)
   simp only [Act.put,List.setIfInBounds_toArray,List.set_cons_zero,List.set_cons_succ]
   refine take_nth (i:=2) (.s (.s .z)) (by kernel_rfl) (by kernel_rfl) (by kernel_rfl) (fun _ _ _ h=>h) (v:=?_) ⟨by rfl,?_⟩ hHeld ?_
   rotate_left
   ·(intro w0 hSw;(try dsimp only at hSw);go_split_ands;go_simp;try with_reducible rfl)
   simp only [Act.put,List.setIfInBounds_toArray,List.set_cons_zero,List.set_cons_succ]
   refine wpAnyH_ready (rs:=[3]) (by kernel_rfl) (by simp) ?_
   refine ready_nth (.s (.s (.s .z))) (fun K hK=>?_)
   go_simp
   refine (C m (Nat.le_refl _) (.lv .unary) rfl _ (k+1) _ _ _ HA3.out.ps.drew (by omega) (by rw [HA3.out.len];omega) (by rw [HA3.out.ns];exact HW0.out) (by rw [HA3.out.ns];exact HX4.out)).mono ?_
   rintro e w4 ⟨rfl,hb4⟩
   unfold wrongAt
   go_wp2_with fail
   exact⟨rfl,IPost.bad rfl ((Below.drew (H.out.low HA3.out.mv)).trans hb4)⟩
  have HX4:=hid hx4;clear hx4
  have HR4:=hid hr4;clear hr4 HR2
  have GO4:=hid (run_goes HX4.out (by omega) HW0.out (Ids.nil _) (by simp))
  have gl4:=GO4.out.lo;have gf4:=GO4.out.few;have ge4:=GO4.out.le;have gn4:=GO4.out.len
  simp only [Job.reads] at gl4
  have sc0_0:=HB3_0.out.cell 0
  have sc0_1:=HB3_0.out.cell 1
  have sc0_2:=HB3_0.out.cell 2
  have sl0:=HB3_0.out.lt
  go_wp2_with fail
  go_region_held3 (fun w'=>w'.cell? ⟨w1.heap.size,0,none⟩=some (.int .u8 (tg l k).kind)∧w'.cell? ⟨w1.heap.size,1,none⟩=some (.string (ofL (tx l k)))∧w'.cell? ⟨w1.heap.size,2,none⟩=some (.int .i64 (pl l en k)))
   (first | go_keep | (go_split_ands;refine⟨?_,?_,?_⟩ <;> assumption))
   (first
    | (go_at_call 256;refine (C m (Nat.le_refl _) (.lv .unary) rfl _ (k+1) _ _ _ HA3.out.ps.drew (by omega) (by rw [HA3.out.len];omega) (by rw [HA3.out.ns];exact HW0.out) (by rw [HA3.out.ns];exact HX4.out)).mono ?_;rintro e w4 ⟨rfl,ext4,nv4,ha4⟩;have HA4:=hid (HA3.out.drew.trans ha4);have bx4_0:=ha4.blk HA3.out.ps.drew HB3_0.out.drew (by decide) (by decide);have dc0_0:=bx4_0.cell 0;have dc0_1:=bx4_0.cell 1;have dc0_2:=bx4_0.cell 2;have dl0:=bx4_0.lt;have HY4_0:=hid bx4_0;clear bx4_0;have hz4:=HA4.out.mv.size;clear ha4)
    | (go_at_call 204;refine (add_at g tv l en iv ns4.length 4 _ _ _ [] 0 _ [hd ks4] _ k4 _ _ (HA4.out.ps.alloc _) (kid_one w4 (hd ks4)) HA4.out.len (by omega)).mono ?_;rintro e w5 ⟨rfl,nv5,p5,m5⟩;have by4_0:=m5.blk (HY4_0.out.alloc _) (HA4.out.ps.tag HY4_0.out (by decide) (by decide)).1 (HA4.out.ps.tag HY4_0.out (by decide) (by decide)).2;have ec0_0:=by4_0.cell 0;have ec0_1:=by4_0.cell 1;have ec0_2:=by4_0.cell 2;clear by4_0;have HA5:=hid ((At.alloc HA4.out _).add p5 m5 (by intro b hb;simp [Value.ownBlock] at hb;omega));clear p5 m5))
  all_goals
   obtain rfl:=add_split HR4.out
   go_wp2_with fail
   go_ret
   exact IPost.ok rfl HA5.out
 ·skip
  have HE2:=hid he2;clear he2
  have HR2:=hid hr2;clear hr2
  go_wp2_with fail
  refine (has_no g tv l en iv hF [45] (.inr (by decide +kernel)) _ k _ _ HA1001.out.ps (by omega) HE2.out).mono ?_
  rintro e w6 ⟨rfl,hb6⟩
  have HB6_0:=hid (HN1.out.below hb6 HN1.out.lt)
  clear HN1
  have HA6:=hid (HA1001.out.below hb6)
  clear HA1001
  clear hb6
  have HX:=hid HR2.out
  go_wp2_with fail
  have HQ:=hid (C m (Nat.le_refl _) .post rfl _ k _ _ r HA6.out.ps (by omega) (by rw [HA6.out.len];omega) (by rw [HA6.out.ns];exact HW0.out) (by rw [HA6.out.ns];exact HX.out))
  cases r with
  | bad kb =>
   refine HQ.out.mono ?_
   rintro e wq ⟨rfl,hbq⟩
   unfold wrongAt
   go_wp2_with fail
   exact⟨rfl,IPost.bad rfl ((H.out.low HA6.out.mv).trans hbq)⟩
  | ok ksq kq nsq =>
   refine HQ.out.mono ?_
   rintro e wq ⟨rfl,extq,nvq,haq⟩
   have HAQ:=hid (HA6.out.trans haq);clear haq
   go_wp2_with fail
   go_ret
   exact IPost.ok rfl HAQ.out
end
end Go.Proofs.YthepmkjggfijoaaGreatDoor
