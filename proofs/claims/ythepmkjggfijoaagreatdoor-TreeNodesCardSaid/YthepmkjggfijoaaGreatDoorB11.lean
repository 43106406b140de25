/-
  PARTS of the proof: TLterm, TF, TSexpr.
-/
import Derived.Carry
import Derived.Test.YthepmkjggfijoaaGreatDoorB08
import Derived.Test.YthepmkjggfijoaaGreatDoorB09
import Derived.Test.YthepmkjggfijoaaGreatDoorB10
set_option linter.all false
set_option maxRecDepth 100000
set_option maxHeartbeats 4000000
open Go.Lib (hid)
namespace Go.Proofs.YthepmkjggfijoaaGreatDoor
open Go.RowKit Mist
attribute [local go_sem] ofL_extract ofL_size ofL_get ofL_bytes ofL_append
section
variable {g:Nat} {tv:Value} {l:List Tok} {en:Int} {iv:Value} (hF:PF l)
include hF
theorem read_term (m:Nat) (C:∀ f,f≤m→IC g tv l en iv f (.lv .unary)) (w:World) (k:Nat) (xs:List NV) (nv:Value) (r:Res) (h:PS g tv l en iv w k xs nv) (hk:k≤l.length) (hn:xs.length≤k) (hw:Wf (nds xs))
  (b0 c:Nat) (hb0:w.heap[b0]? = some (.map (sEs (ents .term) 0).toArray c)) (hr:thn (run l en m (.lv .unary) k (nds xs)) (fun a k1 ns1=>run l en m (.tail .term (hd a)) k1 ns1)=some r) :
  Calls Tryz.prog 233 #[.agg #[.map (some b0),.func (.func 256) #[] #[],.bool false],.pointer (some ⟨g,0,none⟩)] w (IPost g tv l en iv w xs nv r):=by
 have HC:=hid C;clear C
 have H:=hid h;clear h
 have HW:=hid hw;clear hw
 have FF:=hid (H.out.new (Nat.le_refl _))
 have HBL:=hid (Blk.new w 219 #[.map (some b0),.func (.func 256) #[] #[],.bool false])
 have H0:=hid (H.out.alloc (.cells #[.map (some b0),.func (.func 256) #[] #[],.bool false] 219))
 have HM:=hid (show (w.alloc (.cells #[.map (some b0),.func (.func 256) #[] #[],.bool false] 219)).heap[b0]? = _ from alloc_keep hb0 _);clear hb0
 have HR:=hid hr;clear hr
 have hlen:=hF.len
 go_enter Tryz.func233,Tryz.ntmps233
 go_wp2_with fail
 rcases hx:run l en m (.lv .unary) k (nds xs) with _ | x
 ·have:=HR.out;rw [hx] at this;cases this
 have HX:=hid hx;clear hx
 have HR2:=hid (show thn (some x) (fun a k1 ns1=>run l en m (.tail .term (hd a)) k1 ns1)=some r by have:=HR.out;rwa [HX.out] at this)
 cases x with
 | bad kb =>
  obtain rfl:Res.bad kb=r:=Option.some.inj HR2.out
  refine (HC.out m (Nat.le_refl _) _ k xs nv _ H0.out hk hn HW.out HX.out).mono ?_
  rintro e w1 ⟨rfl,hb⟩
  unfold wrongAt
  go_wp2_with fail
  exact⟨rfl,IPost.bad rfl ((balloc (Below.refl _ _) (Nat.le_of_lt H.out.lt)).trans hb)⟩
 | ok ks k1 ns1 =>
  have GO:=hid (run_goes HX.out hk HW.out (Ids.nil _) (by simp))
  refine (HC.out m (Nat.le_refl _) _ k xs nv _ H0.out hk hn HW.out HX.out).mono ?_
  rintro e w1 ⟨rfl,ext,nv1,ha⟩
  have HA:=hid ha;clear ha
  have HB1:=hid (HA.out.blk H0.out HBL.out (by decide) (by decide))
  have HM1:=hid (HA.out.map H0.out HM.out)
  have HA1:=hid (At.from_ HA.out)
  have HR3:=hid (show run l en m (.tail .term (hd ks)) k1 (nds (xs ++ ext))=some r by rw [HA.out.ns];exact HR2.out)
  clear HR HR2 HX
  have hk1:=GO.out.le
  have hf1:=GO.out.few
  rw [nds_len] at hf1
  have hl1:=HA.out.len
  have HWF:=hid (show Wf (nds (xs ++ ext)) by rw [HA.out.ns];exact GO.out.wf)
  have HID:=hid (show 0≤hd ks∧hd ks < ((xs ++ ext).length:Int) by rw [hl1];exact GO.out.hd)
  have hcn:(xs ++ ext).length≤k1:=by omega
  clear hl1 hf1 GO HA HM HBL
  obtain⟨av,hav⟩:∃ av,av=hd ks:=⟨_,rfl⟩
  rw [← hav] at HR3 HID ⊢
  clear hav
  have HNS:=hid HA1.out.ns
  go_wp2_with fail
  go_loopw [5] (fun a wr=>∃ (f k':Nat) (ext:List NV) (nv':Value) (av:Int),a=.int .i64 av∧f≤m∧k'≤l.length∧(xs ++ ext).length≤k'∧Hid (run l en f (.tail .term av) k' (nds (xs ++ ext))=some r)∧Hid (Wf (nds (xs ++ ext)))∧Hid (0≤av∧av < ((xs ++ ext).length:Int)) ∧
    Hid (At g tv l en iv w xs nv k' (nds (xs ++ ext)) wr ext nv')∧Hid (Blk wr w.heap.size 219 #[.map (some b0),.func (.func 256) #[] #[],.bool false])∧Hid (wr.heap[b0]? = some (.map (sEs (ents .term) 0).toArray c))) (fun _ wr=>toGo g l.length wr)
  case atStart=>exact⟨m,k1,ext,nv1,av,rfl,Nat.le_refl _,hk1,hcn,HR3,HWF,HID,by rw [HNS.out];exact HA1,HB1,HM1⟩
  case round =>
   clear HA1 HB1 HM1 HR3 HWF HID hcn hk1 HNS
   obtain⟨f,k',ext,nv',av,rfl,hfm,hk',hn',HRT,HWF,HID,HA,HBL,HM⟩:=hrel
   obtain⟨f,rfl⟩:∃ f0,f=f0+1:=⟨f - 1,by
    rcases Nat.eq_zero_or_pos f with h | h
    ·subst h;have:=HRT.out;rw [run] at this;cases this
    ·omega⟩
   have HMS:=hid (HA.out.ps.toGo (n:=l.length))
   go_wp2_with fail
   refine (look_any g tv l en iv _ k' _ nv' HA.out.ps hk' hlen).mono ?_
   rintro e w2 ⟨rfl,hb2⟩
   have HA2:=hid ((HA.out.below hb2).alloc (.cells #[.int .u8 (tg l k').kind,.string (ofL (tx l k')),.int .i64 (pl l en k')] 68))
   have bL2:=(HBL.out.below hb2 HBL.out.lt).alloc (.cells #[.int .u8 (tg l k').kind,.string (ofL (tx l k')),.int .i64 (pl l en k')] 68)
   have bT2:=Blk.new w2 68 #[.int .u8 (tg l k').kind,.string (ofL (tx l k')),.int .i64 (pl l en k')]
   have HM2:=hid (alloc_keep ((hb2.block b0 (Array.getElem?_eq_some_iff.1 HM.out).1).trans HM.out) (.cells #[.int .u8 (tg l k').kind,.string (ofL (tx l k')),.int .i64 (pl l en k')] 68))
   clear hb2
   have hlk:=lookup_op _ .term b0 c HM2.out (tx l k')
   have c0:=bL2.cell 0
   have hl2:w.heap.size < w2.heap.size+1:=by have:=bL2.lt;simpa using this
   have HBL2:=hid bL2;clear bL2
   have HBT2:=hid bT2;clear bT2
   by_cases hop:opOf .term (tx l k')=0
   ·have hop':((opOf .term (tx l k'):Int) == 0)=true:=by simp [hop]
    have HST:=hid (show r=.ok [av] k' (nds (xs ++ ext)) by have:=HRT.out;rw [run_tail_stop hop] at this;exact (Option.some.inj this).symm)
    clear hop
    go_wp2_with fail
    go_ret
    rw [HST.out]
    exact IPost.ok rfl HA2.out
   ·have hop':((opOf .term (tx l k'):Int) == 0)=false:=by simp [hop]
    have hkl:=(opOf_lt hop).1
    have HGO:=hid (show thn (run l en f (.lv .unary) (k'+1) (nds (xs ++ ext))) (fun b k1 ns1=>thn (add ⟨opOf .term (tx l k'),[],0,[av,hd b],pl l en k'⟩ k1 ns1) fun c k2 ns2=>run l en f (.tail .term (hd c)) k2 ns2)=some r by
     have:=HRT.out;rw [run_tail_go hop] at this;exact this)
    clear hop HRT
    go_wp2_with fail
    refine (take_any g tv l en iv _ k' _ nv' HA2.out.ps hk' hlen).mono ?_
    rintro e w3 ⟨rfl,p3,m3⟩
    have HA3:=hid (HA2.out.step p3 m3)
    have bL3:=m3.blk HBL2.out (HA2.out.ps.tag HBL2.out (by decide) (by decide)).1 (HA2.out.ps.tag HBL2.out (by decide) (by decide)).2
    have bT3:=m3.blk HBT2.out (HA2.out.ps.tag HBT2.out (by decide) (by decide)).1 (HA2.out.ps.tag HBT2.out (by decide) (by decide)).2
    have HM3:=hid ((m3.block b0 (Array.getElem?_eq_some_iff.1 HM2.out).1 (HA2.out.ps.map_ne HM2.out).1 (HA2.out.ps.map_ne HM2.out).2).trans HM2.out)
    clear m3 p3 hlk c0 hl2 hop'
    have s0:=bT3.cell 0
    have s1:=bT3.cell 1
    have s2:=bT3.cell 2
    have s3:=bL3.cell 1
    have hl3:=bT3.lt
    have hl4:=bL3.lt
    have HBL3:=hid bL3;clear bL3
    have HBT3:=hid bT3;clear bT3
    clear HA2 HBL2 HBT2 HM2 HBL HM HA
    go_wp2_with fail
    rcases hx:run l en f (.lv .unary) (k'+1) (nds (xs ++ ext)) with _ | x
    ·have:=HGO.out;rw [hx] at this;cases this
    have HX:=hid hx;clear hx
    have HG2:=hid (show thn (some x) _=some r by have:=HGO.out;rw [HX.out] at this;exact this)
    clear HGO
    cases x with
    | bad kb =>
     obtain rfl:Res.bad kb=r:=Option.some.inj HG2.out
     have HLOW:=hid (H.out.low HA3.out.mv)
     refine wp_region_held_drew (S:=fun w'=>w'.cell? ⟨w2.heap.size,0,none⟩=some (.int .u8 (tg l k').kind)∧w'.cell? ⟨w2.heap.size,1,none⟩=some (.string (ofL (tx l k')))∧w'.cell? ⟨w2.heap.size,2,none⟩=some (.int .i64 (pl l en k'))∧w'.cell? ⟨w.heap.size,1,none⟩=some (.func (.func 256) #[] #[])) (by kernel_rfl) ⟨s0,s1,s2,s3⟩ (fun hHeld=>?_)
     refine take_nth (i:=0) .z (by kernel_rfl) (by kernel_rfl) (by kernel_rfl) (fun _ _ _ h=>h) (v:=?_) ⟨by rfl,?_⟩ hHeld ?_
     rotate_left
     ·(intro w0 hSw;(try dsimp only at hSw);go_split_ands;go_simp;try with_reducible rfl)
     simp only [Act.put,List.setIfInBounds_toArray,List.set_cons_zero,List.set_cons_succ]
     refine take_nth (i:=1) (.s .z) (by kernel_rfl) (by kernel_rfl) (by kernel_rfl) (fun _ _ _ h=>h) (v:=?_) ⟨by rfl,?_⟩ hHeld ?_
     rotate_left
     ·(intro w0 hSw;(try dsimp only at hSw);go_split_ands;go_simp;try with_reducible rfl)
     simp only [Act.put,List.setIfInBounds_toArray,List.set_cons_zero,List.set_cons_succ]
     refine take_nth (i:=2) (.s (.s .z)) (by kernel_rfl) (by kernel_rfl) (by kernel_rfl) (fun _ _ _ h=>h) (v:=?_) ⟨by rfl,?_⟩ hHeld ?_
     rotate_left
     ·(intro w0 hSw;(try dsimp only at hSw);go_split_ands;go_simp;try with_reducible rfl)
     simp only [Act.put,List.setIfInBounds_toArray,List.set_cons_zero,List.set_cons_succ]
     refine take_nth (i:=3) (.s (.s (.s .z))) (by kernel_rfl) (by kernel_rfl) (by kernel_rfl) (fun _ _ _ h=>h) (v:=?_) ⟨by rfl,?_⟩ hHeld ?_
     rotate_left
     ·(intro w0 hSw;(try dsimp only at hSw);go_split_ands;go_simp;try with_reducible rfl)
     simp only [Act.put,List.setIfInBounds_toArray,List.set_cons_zero,List.set_cons_succ]
     refine take_nth (i:=4) (.s (.s (.s (.s .z)))) (by kernel_rfl) (by kernel_rfl) (by kernel_rfl) (fun _ _ _ h=>h) (v:=?_) ⟨by rfl,?_⟩ hHeld ?_
     rotate_left
     ·(intro w0 hSw;(try dsimp only at hSw);go_split_ands;go_simp;try with_reducible rfl)
     simp only [Act.put,List.setIfInBounds_toArray,List.set_cons_zero,List.set_cons_succ]
     refine take_nth (i:=5) (.s (.s (.s (.s (.s .z))))) (by kernel_rfl) (by kernel_rfl) (by kernel_rfl) (fun _ _ _ h=>h) (v:=?_) ⟨by rfl,?_⟩ hHeld ?_
     rotate_left
     ·(intro w0 hSw;(try dsimp only at hSw);go_split_ands;go_simp;try with_reducible rfl)
     simp only [Act.put,List.setIfInBounds_toArray,List.set_cons_zero,List.set_cons_succ]
     refine take_nth (i:=6) (.s (.s (.s (.s (.s (.s .z)))))) (by kernel_rfl) (by kernel_rfl) (by kernel_rfl) (fun _ _ _ h=>h) (v:=?_) ⟨by rfl,?_⟩ hHeld ?_
     rotate_left
     ·(intro w0 hSw;(try dsimp only at hSw);go_split_ands;go_simp;try with_reducible rfl)
     simp only [Act.put,List.setIfInBounds_toArray,List.set_cons_zero,List.set_cons_succ]
     refine wpAnyH_ready (rs:=[7]) (by kernel_rfl) (by simp) ?_
     refine ready_nth (.s (.s (.s (.s (.s (.s (.s .z))))))) (fun K hK=>?_)
     go_simp
     refine (HC.out f (by omega) _ (k'+1) (xs ++ ext) nv' _ HA3.out.ps.drew (by omega) (by omega) HWF.out HX.out).mono ?_
     rintro e w4 ⟨rfl,hb4⟩
     unfold wrongAt
     go_wp2_with fail
     exact⟨rfl,IPost.bad rfl ((Below.drew HLOW.out).trans hb4)⟩
    | ok kb k1 ns1 =>
     have GO:=hid (run_goes HX.out (by omega) HWF.out (Ids.nil _) (by simp))
     go_region_held3 (fun w'=>w'.cell? ⟨w2.heap.size,0,none⟩=some (.int .u8 (tg l k').kind)∧w'.cell? ⟨w2.heap.size,1,none⟩=some (.string (ofL (tx l k')))∧w'.cell? ⟨w2.heap.size,2,none⟩=some (.int .i64 (pl l en k'))∧w'.cell? ⟨w.heap.size,1,none⟩=some (.func (.func 256) #[] #[]))
      (first | go_keep | (go_split_ands;refine⟨?_,?_,?_,?_⟩ <;> assumption))
      (first
       | (go_at_call 256;refine (HC.out f (by omega) _ (k'+1) (xs ++ ext) nv' _ HA3.out.ps.drew (by omega) (by omega) HWF.out HX.out).mono ?_;rintro e w4 ⟨rfl,ext4,nv4,ha4⟩;have HA4:=hid ha4;clear ha4;have HA34:=hid (HA3.out.drew.trans HA4.out);have bT4:=HA4.out.blk HA3.out.ps.drew HBT3.out.drew (by decide) (by decide);have bL4:=HA4.out.blk HA3.out.ps.drew HBL3.out.drew (by decide) (by decide);have d0:=bT4.cell 0;have d1:=bT4.cell 1;have d2:=bT4.cell 2;have d3:=bL4.cell 1;have hl5:=bT4.lt;have hl6:=bL4.lt;have HM4:=hid (HA4.out.map HA3.out.ps.drew HM3.out);have HBL4:=hid bL4;clear bL4;have HBT4:=hid bT4;clear bT4)
       | (go_at_call 204;refine (add_at g tv l en iv ns1.length _ _ _ _ _ _ _ [av,hd kb] _ k1 (xs ++ (ext ++ ext4)) nv4 (HA34.out.ps.alloc _) (kid_two w4 av (hd kb)) HA34.out.len (by have h1:=HA34.out.len;have h2:=GO.out.few;have h3:=GO.out.le;simp only [nds_len] at h2;omega)).mono ?_;rintro e w5 ⟨rfl,nv5,p5,m5⟩;have bT5:=m5.blk (HBT4.out.alloc _) (HA4.out.ps.tag HBT4.out (by decide) (by decide)).1 (HA4.out.ps.tag HBT4.out (by decide) (by decide)).2;have bL5:=m5.blk (HBL4.out.alloc _) (HA4.out.ps.tag HBL4.out (by decide) (by decide)).1 (HA4.out.ps.tag HBL4.out (by decide) (by decide)).2;have e0:=bT5.cell 0;have e1:=bT5.cell 1;have e2:=bT5.cell 2;have e3:=bL5.cell 1;have HM5:=hid ((m5.block b0 (by have:=(Array.getElem?_eq_some_iff.1 HM4.out).1;simp;omega) (HA4.out.ps.map_ne HM4.out).1 (HA4.out.ps.map_ne HM4.out).2).trans (alloc_keep HM4.out _));have HBL5:=hid bL5;clear bL5;have HA5:=hid ((At.alloc HA34.out _).add p5 m5 (by intro b hb;simp [Value.ownBlock] at hb;omega));clear p5 m5 bT5))
     all_goals
      have g1:=GO.out.lo
      have g2:=GO.out.few
      have g3:=GO.out.le
      have g4:=HA34.out.len
      have g5:=GO.out.len
      simp only [nds_len] at g2 g5
      simp only [Job.reads] at g1
      have b2:=HBL5.out.cell 2
      have hlb:=HBL5.out.lt
      clear e0 e1 e2 e3 d0 d1 d2 d3 s0 s1 s2 s3 hl3 hl4 hl5 hl6
      have HRN:=hid (show run l en f (.tail .term ((ns1.length:Nat):Int)) k1 (nds (xs ++ (ext ++ ext4 ++ [(⟨opOf .term (tx l k'),[],0,[av,hd kb],pl l en k'⟩,.slice (some ⟨w4.heap.size,0,none⟩) 2 2)])))=some r by
       rw [HA5.out.ns];exact HG2.out)
      have HWN:=hid (show Wf (nds (xs ++ (ext ++ ext4 ++ [(⟨opOf .term (tx l k'),[],0,[av,hd kb],pl l en k'⟩,.slice (some ⟨w4.heap.size,0,none⟩) 2 2)]))) by
       rw [HA5.out.ns];exact GO.out.wf.add (Ids.cons (by have:=HID.out;omega) (Ids.cons GO.out.hd (Ids.nil _))))
      have HAN:=hid (show At g tv l en iv w xs nv k1 (nds (xs ++ (ext ++ ext4 ++ [(⟨opOf .term (tx l k'),[],0,[av,hd kb],pl l en k'⟩,.slice (some ⟨w4.heap.size,0,none⟩) 2 2)]))) w5 (ext ++ ext4 ++ [(⟨opOf .term (tx l k'),[],0,[av,hd kb],pl l en k'⟩,.slice (some ⟨w4.heap.size,0,none⟩) 2 2)]) nv5 by
       rw [HA5.out.ns];exact HA5.out)
      have hln:(xs ++ (ext ++ ext4 ++ [((⟨opOf .term (tx l k'),[],0,[av,hd kb],pl l en k'⟩:Nd),Value.slice (some ⟨w4.heap.size,0,none⟩) 2 2)])).length=(xs ++ (ext ++ ext4)).length+1:=by simp;omega
      have HLN:=hid hln;clear hln
      have HG4:=hid g4;clear g4
      go_wp2_with fail
      refine⟨⟨f,k1,_,nv5,_,rfl,by omega,g3,by rw [HLN.out,HG4.out];omega,HRN,HWN,hid ⟨by omega,by rw [HLN.out,HG4.out];omega⟩,HAN,HBL5,HM5⟩,?_⟩
      rw [HMS.out,HA5.out.ps.toGo];omega
end
end Go.Proofs.YthepmkjggfijoaaGreatDoor
namespace Go.Proofs.YthepmkjggfijoaaGreatDoor
open Go.RowKit Mist
attribute [local go_sem] ofL_extract ofL_size ofL_get ofL_bytes ofL_append
section
variable {g:Nat} {tv:Value} {l:List Tok} {en:Int} {iv:Value} (hF:PF l)
include hF
theorem part_or (m:Nat) (C:∀ f,f≤m→IC g tv l en iv f (.lv .and)):IC g tv l en iv (m+1) (.lv .or):=by
 intro w k xs nv r h hk hn hw hr
 have H:=hid h;clear h
 have HW:=hid hw;clear hw
 have HC:=hid C;clear C
 have HR:=hid (show thn (run l en m (.lv .and) k (nds xs)) (fun a k1 ns1=>run l en m (.tail .or (hd a)) k1 ns1)=some r by rw [run] at hr <;> first | exact hr | decide | (intro h;cases h));clear hr
 have hmm:=@run_makeMap Tryz.prog
 have i0:(Instr.mapUpdate 217 (.map (some w.heap.size)) (.string ⟨#[111,114]⟩) (.int .u8 18)).run Tryz.prog (w.alloc (.map #[] 0))=.ok () (w.alloc (.map (sEs [([111,114],.int .u8 18)] 0).toArray 1)):=insert_s 217 5 Tryz.underlying217 w [] [111,114] (.int .u8 18) (by decide +kernel)
 have HM:=hid (heap_alloc_new w (.map (sEs [([111,114],.int .u8 18)] 0).toArray 1))
 have HP:=hid (H.out.alloc (.map (sEs [([111,114],.int .u8 18)] 0).toArray 1))
 unfold jobFn lvFn
 go_enter Tryz.func222,Tryz.ntmps222
 go_wp2_with fail
 refine (read_or hF m HC.out _ k xs nv r HP.out hk hn HW.out w.heap.size 1 HM.out HR.out).mono ?_
 intro e w1 hp
 cases r with
 | bad kb =>
  obtain⟨rfl,hb⟩:=hp
  unfold wrongAt
  go_wp2_with fail
  exact⟨rfl,IPost.bad rfl ((balloc (Below.refl _ _) (Nat.le_of_lt H.out.lt)).trans hb)⟩
 | ok ks k1 ns1 =>
  obtain⟨rfl,ext,nv1,ha⟩:=hp
  have HA:=hid (At.from_ ha);clear ha
  go_wp2_with fail
  go_ret
  exact IPost.ok rfl HA.out
theorem part_and (m:Nat) (C:∀ f,f≤m→IC g tv l en iv f (.lv .not)):IC g tv l en iv (m+1) (.lv .and):=by
 intro w k xs nv r h hk hn hw hr
 have H:=hid h;clear h
 have HW:=hid hw;clear hw
 have HC:=hid C;clear C
 have HR:=hid (show thn (run l en m (.lv .not) k (nds xs)) (fun a k1 ns1=>run l en m (.tail .and (hd a)) k1 ns1)=some r by rw [run] at hr <;> first | exact hr | decide | (intro h;cases h));clear hr
 have hmm:=@run_makeMap Tryz.prog
 have i0:(Instr.mapUpdate 217 (.map (some w.heap.size)) (.string ⟨#[97,110,100]⟩) (.int .u8 17)).run Tryz.prog (w.alloc (.map #[] 0))=.ok () (w.alloc (.map (sEs [([97,110,100],.int .u8 17)] 0).toArray 1)):=insert_s 217 5 Tryz.underlying217 w [] [97,110,100] (.int .u8 17) (by decide +kernel)
 have HM:=hid (heap_alloc_new w (.map (sEs [([97,110,100],.int .u8 17)] 0).toArray 1))
 have HP:=hid (H.out.alloc (.map (sEs [([97,110,100],.int .u8 17)] 0).toArray 1))
 unfold jobFn lvFn
 go_enter Tryz.func232,Tryz.ntmps232
 go_wp2_with fail
 refine (read_and hF m HC.out _ k xs nv r HP.out hk hn HW.out w.heap.size 1 HM.out HR.out).mono ?_
 intro e w1 hp
 cases r with
 | bad kb =>
  obtain⟨rfl,hb⟩:=hp
  unfold wrongAt
  go_wp2_with fail
  exact⟨rfl,IPost.bad rfl ((balloc (Below.refl _ _) (Nat.le_of_lt H.out.lt)).trans hb)⟩
 | ok ks k1 ns1 =>
  obtain⟨rfl,ext,nv1,ha⟩:=hp
  have HA:=hid (At.from_ ha);clear ha
  go_wp2_with fail
  go_ret
  exact IPost.ok rfl HA.out
theorem part_cmp (m:Nat) (C:∀ f,f≤m→IC g tv l en iv f (.lv .sum)):IC g tv l en iv (m+1) (.lv .cmp):=by
 intro w k xs nv r h hk hn hw hr
 have H:=hid h;clear h
 have HW:=hid hw;clear hw
 have HC:=hid C;clear C
 have HR:=hid (show thn (run l en m (.lv .sum) k (nds xs)) (fun a k1 ns1=>run l en m (.tail .cmp (hd a)) k1 ns1)=some r by rw [run] at hr <;> first | exact hr | decide | (intro h;cases h));clear hr
 have hmm:=@run_makeMap Tryz.prog
 have i0:(Instr.mapUpdate 217 (.map (some w.heap.size)) (.string ⟨#[61,61]⟩) (.int .u8 11)).run Tryz.prog (w.alloc (.map #[] 0))=.ok () (w.alloc (.map (sEs [([61,61],.int .u8 11)] 0).toArray 1)):=insert_s 217 5 Tryz.underlying217 w [] [61,61] (.int .u8 11) (by decide +kernel)
 have i1:(Instr.mapUpdate 217 (.map (some w.heap.size)) (.string ⟨#[33,61]⟩) (.int .u8 12)).run Tryz.prog (w.alloc (.map (sEs [([61,61],.int .u8 11)] 0).toArray 1))=.ok () (w.alloc (.map (sEs [([61,61],.int .u8 11),([33,61],.int .u8 12)] 0).toArray 2)):=insert_s 217 5 Tryz.underlying217 w [([61,61],.int .u8 11)] [33,61] (.int .u8 12) (by decide +kernel)
 have i2:(Instr.mapUpdate 217 (.map (some w.heap.size)) (.string ⟨#[60]⟩) (.int .u8 13)).run Tryz.prog (w.alloc (.map (sEs [([61,61],.int .u8 11),([33,61],.int .u8 12)] 0).toArray 2))=.ok () (w.alloc (.map (sEs [([61,61],.int .u8 11),([33,61],.int .u8 12),([60],.int .u8 13)] 0).toArray 3)):=insert_s 217 5 Tryz.underlying217 w [([61,61],.int .u8 11),([33,61],.int .u8 12)] [60] (.int .u8 13) (by decide +kernel)
 have i3:(Instr.mapUpdate 217 (.map (some w.heap.size)) (.string ⟨#[60,61]⟩) (.int .u8 14)).run Tryz.prog (w.alloc (.map (sEs [([61,61],.int .u8 11),([33,61],.int .u8 12),([60],.int .u8 13)] 0).toArray 3))=.ok () (w.alloc (.map (sEs [([61,61],.int .u8 11),([33,61],.int .u8 12),([60],.int .u8 13),([60,61],.int .u8 14)] 0).toArray 4)):=insert_s 217 5 Tryz.underlying217 w [([61,61],.int .u8 11),([33,61],.int .u8 12),([60],.int .u8 13)] [60,61] (.int .u8 14) (by decide +kernel)
 have i4:(Instr.mapUpdate 217 (.map (some w.heap.size)) (.string ⟨#[62]⟩) (.int .u8 15)).run Tryz.prog (w.alloc (.map (sEs [([61,61],.int .u8 11),([33,61],.int .u8 12),([60],.int .u8 13),([60,61],.int .u8 14)] 0).toArray 4))=.ok () (w.alloc (.map (sEs [([61,61],.int .u8 11),([33,61],.int .u8 12),([60],.int .u8 13),([60,61],.int .u8 14),([62],.int .u8 15)] 0).toArray 5)):=insert_s 217 5 Tryz.underlying217 w [([61,61],.int .u8 11),([33,61],.int .u8 12),([60],.int .u8 13),([60,61],.int .u8 14)] [62] (.int .u8 15) (by decide +kernel)
 have i5:(Instr.mapUpdate 217 (.map (some w.heap.size)) (.string ⟨#[62,61]⟩) (.int .u8 16)).run Tryz.prog (w.alloc (.map (sEs [([61,61],.int .u8 11),([33,61],.int .u8 12),([60],.int .u8 13),([60,61],.int .u8 14),([62],.int .u8 15)] 0).toArray 5))=.ok () (w.alloc (.map (sEs [([61,61],.int .u8 11),([33,61],.int .u8 12),([60],.int .u8 13),([60,61],.int .u8 14),([62],.int .u8 15),([62,61],.int .u8 16)] 0).toArray 6)):=insert_s 217 5 Tryz.underlying217 w [([61,61],.int .u8 11),([33,61],.int .u8 12),([60],.int .u8 13),([60,61],.int .u8 14),([62],.int .u8 15)] [62,61] (.int .u8 16) (by decide +kernel)
 have HM:=hid (heap_alloc_new w (.map (sEs [([61,61],.int .u8 11),([33,61],.int .u8 12),([60],.int .u8 13),([60,61],.int .u8 14),([62],.int .u8 15),([62,61],.int .u8 16)] 0).toArray 6))
 have HP:=hid (H.out.alloc (.map (sEs [([61,61],.int .u8 11),([33,61],.int .u8 12),([60],.int .u8 13),([60,61],.int .u8 14),([62],.int .u8 15),([62,61],.int .u8 16)] 0).toArray 6))
 unfold jobFn lvFn
 go_enter Tryz.func245,Tryz.ntmps245
 go_wp2_with fail
 refine (read_cmp hF m HC.out _ k xs nv r HP.out hk hn HW.out w.heap.size 6 HM.out HR.out).mono ?_
 intro e w1 hp
 cases r with
 | bad kb =>
  obtain⟨rfl,hb⟩:=hp
  unfold wrongAt
  go_wp2_with fail
  exact⟨rfl,IPost.bad rfl ((balloc (Below.refl _ _) (Nat.le_of_lt H.out.lt)).trans hb)⟩
 | ok ks k1 ns1 =>
  obtain⟨rfl,ext,nv1,ha⟩:=hp
  have HA:=hid (At.from_ ha);clear ha
  go_wp2_with fail
  go_ret
  exact IPost.ok rfl HA.out
theorem part_sum (m:Nat) (C:∀ f,f≤m→IC g tv l en iv f (.lv .term)):IC g tv l en iv (m+1) (.lv .sum):=by
 intro w k xs nv r h hk hn hw hr
 have H:=hid h;clear h
 have HW:=hid hw;clear hw
 have HC:=hid C;clear C
 have HR:=hid (show thn (run l en m (.lv .term) k (nds xs)) (fun a k1 ns1=>run l en m (.tail .sum (hd a)) k1 ns1)=some r by rw [run] at hr <;> first | exact hr | decide | (intro h;cases h));clear hr
 have hmm:=@run_makeMap Tryz.prog
 have i0:(Instr.mapUpdate 217 (.map (some w.heap.size)) (.string ⟨#[43]⟩) (.int .u8 6)).run Tryz.prog (w.alloc (.map #[] 0))=.ok () (w.alloc (.map (sEs [([43],.int .u8 6)] 0).toArray 1)):=insert_s 217 5 Tryz.underlying217 w [] [43] (.int .u8 6) (by decide +kernel)
 have i1:(Instr.mapUpdate 217 (.map (some w.heap.size)) (.string ⟨#[45]⟩) (.int .u8 7)).run Tryz.prog (w.alloc (.map (sEs [([43],.int .u8 6)] 0).toArray 1))=.ok () (w.alloc (.map (sEs [([43],.int .u8 6),([45],.int .u8 7)] 0).toArray 2)):=insert_s 217 5 Tryz.underlying217 w [([43],.int .u8 6)] [45] (.int .u8 7) (by decide +kernel)
 have HM:=hid (heap_alloc_new w (.map (sEs [([43],.int .u8 6),([45],.int .u8 7)] 0).toArray 2))
 have HP:=hid (H.out.alloc (.map (sEs [([43],.int .u8 6),([45],.int .u8 7)] 0).toArray 2))
 unfold jobFn lvFn
 go_enter Tryz.func251,Tryz.ntmps251
 go_wp2_with fail
 refine (read_sum hF m HC.out _ k xs nv r HP.out hk hn HW.out w.heap.size 2 HM.out HR.out).mono ?_
 intro e w1 hp
 cases r with
 | bad kb =>
  obtain⟨rfl,hb⟩:=hp
  unfold wrongAt
  go_wp2_with fail
  exact⟨rfl,IPost.bad rfl ((balloc (Below.refl _ _) (Nat.le_of_lt H.out.lt)).trans hb)⟩
 | ok ks k1 ns1 =>
  obtain⟨rfl,ext,nv1,ha⟩:=hp
  have HA:=hid (At.from_ ha);clear ha
  go_wp2_with fail
  go_ret
  exact IPost.ok rfl HA.out
theorem part_term (m:Nat) (C:∀ f,f≤m→IC g tv l en iv f (.lv .unary)):IC g tv l en iv (m+1) (.lv .term):=by
 intro w k xs nv r h hk hn hw hr
 have H:=hid h;clear h
 have HW:=hid hw;clear hw
 have HC:=hid C;clear C
 have HR:=hid (show thn (run l en m (.lv .unary) k (nds xs)) (fun a k1 ns1=>run l en m (.tail .term (hd a)) k1 ns1)=some r by rw [run] at hr <;> first | exact hr | decide | (intro h;cases h));clear hr
 have hmm:=@run_makeMap Tryz.prog
 have i0:(Instr.mapUpdate 217 (.map (some w.heap.size)) (.string ⟨#[42]⟩) (.int .u8 8)).run Tryz.prog (w.alloc (.map #[] 0))=.ok () (w.alloc (.map (sEs [([42],.int .u8 8)] 0).toArray 1)):=insert_s 217 5 Tryz.underlying217 w [] [42] (.int .u8 8) (by decide +kernel)
 have i1:(Instr.mapUpdate 217 (.map (some w.heap.size)) (.string ⟨#[47]⟩) (.int .u8 9)).run Tryz.prog (w.alloc (.map (sEs [([42],.int .u8 8)] 0).toArray 1))=.ok () (w.alloc (.map (sEs [([42],.int .u8 8),([47],.int .u8 9)] 0).toArray 2)):=insert_s 217 5 Tryz.underlying217 w [([42],.int .u8 8)] [47] (.int .u8 9) (by decide +kernel)
 have i2:(Instr.mapUpdate 217 (.map (some w.heap.size)) (.string ⟨#[37]⟩) (.int .u8 10)).run Tryz.prog (w.alloc (.map (sEs [([42],.int .u8 8),([47],.int .u8 9)] 0).toArray 2))=.ok () (w.alloc (.map (sEs [([42],.int .u8 8),([47],.int .u8 9),([37],.int .u8 10)] 0).toArray 3)):=insert_s 217 5 Tryz.underlying217 w [([42],.int .u8 8),([47],.int .u8 9)] [37] (.int .u8 10) (by decide +kernel)
 have HM:=hid (heap_alloc_new w (.map (sEs [([42],.int .u8 8),([47],.int .u8 9),([37],.int .u8 10)] 0).toArray 3))
 have HP:=hid (H.out.alloc (.map (sEs [([42],.int .u8 8),([47],.int .u8 9),([37],.int .u8 10)] 0).toArray 3))
 unfold jobFn lvFn
 go_enter Tryz.func255,Tryz.ntmps255
 go_wp2_with fail
 refine (read_term hF m HC.out _ k xs nv r HP.out hk hn HW.out w.heap.size 3 HM.out HR.out).mono ?_
 intro e w1 hp
 cases r with
 | bad kb =>
  obtain⟨rfl,hb⟩:=hp
  unfold wrongAt
  go_wp2_with fail
  exact⟨rfl,IPost.bad rfl ((balloc (Below.refl _ _) (Nat.le_of_lt H.out.lt)).trans hb)⟩
 | ok ks k1 ns1 =>
  obtain⟨rfl,ext,nv1,ha⟩:=hp
  have HA:=hid (At.from_ ha);clear ha
  go_wp2_with fail
  go_ret
  exact IPost.ok rfl HA.out
end
end Go.Proofs.YthepmkjggfijoaaGreatDoor
namespace Go.Proofs.YthepmkjggfijoaaGreatDoor
open Go.RowKit Mist
attribute [local go_sem] ofL_extract ofL_size ofL_get ofL_bytes ofL_append
section
variable {g:Nat} {tv:Value} {l:List Tok} {en:Int} {iv:Value} (hF:PF l)
include hF
theorem list_expr (m:Nat) (C:∀ f,f≤m→IC g tv l en iv f El.expr.job):LC g tv l en iv (m+1) .expr:=by
 intro w k xs nv r h hk hn hw hr
 have HC:=hid C;clear C
 have H:=hid h;clear h
 have HW:=hid hw;clear hw
 have HR:=hid (show thn (run l en m El.expr.job k (nds xs)) (fun a k1 ns1=>run l en m (.listT .expr [hd a]) k1 ns1)=some r by rw [run] at hr;exact hr);clear hr
 have hlen:=hF.len
 obtain⟨i0,hi0,hz0,hz1,hz2⟩:=info_parts int_info
 unfold elFn
 go_enter Tryz.func205,Tryz.ntmps205
 go_wp2_with fail
 rcases hx:run l en m El.expr.job k (nds xs) with _ | x
 ·have:=HR.out;rw [hx] at this;cases this
 have HX:=hid hx;clear hx
 have HR2:=hid (show thn (some x) (fun a k1 ns1=>run l en m (.listT .expr [hd a]) k1 ns1)=some r by have:=HR.out;rwa [HX.out] at this)
 clear HR
 cases x with
 | bad kb =>
  obtain rfl:Res.bad kb=r:=Option.some.inj HR2.out
  refine (HC.out m (Nat.le_refl _) _ k xs nv _ H.out hk hn HW.out HX.out).mono ?_
  rintro e w1 ⟨rfl,hb⟩
  unfold wrongAt
  go_wp2_with fail
  exact⟨rfl,LPost.bad rfl hb⟩
 | ok ks k1 ns1 =>
  have GO:=hid (run_goes HX.out hk HW.out (Ids.nil _) (by simp [El.job]))
  refine (HC.out m (Nat.le_refl _) _ k xs nv _ H.out hk hn HW.out HX.out).mono ?_
  rintro e w1 ⟨rfl,ext,nv1,ha⟩
  have HA:=hid ha;clear ha
  have HR3:=hid (show run l en m (.listT .expr [hd ks]) k1 (nds (xs ++ ext))=some r by rw [HA.out.ns];exact HR2.out)
  clear HR2 HX
  have hk1:=GO.out.le
  have hf1:=GO.out.few
  have hg1:=GO.out.lo
  simp only [Job.reads,El.job] at hg1
  rw [nds_len] at hf1
  have hl1:=HA.out.len
  have HWF:=hid (show Wf (nds (xs ++ ext)) by rw [HA.out.ns];exact GO.out.wf)
  have HID:=hid (show Ids [hd ks] (xs ++ ext).length by rw [hl1];exact Ids.cons GO.out.hd (Ids.nil _))
  have hcn:(xs ++ ext).length≤k1:=by omega
  have hsz:=HA.out.mv.size
  have HOW:=hid (show (w1.alloc (.cells #[.int .i64 (hd ks)] 3)).ownsRow w.heap.size 3 1 (.slice (some ⟨w1.heap.size,0,none⟩) 1 1) 1 (intCells [hd ks]) from World.ownsRow_lit w1 _ 1 hsz (by simp [maxLen]) rfl)
  have HNE:=hid (show ∀ x ∈ ext,x.2.ownBlock=none∨x.2.ownBlock ≠ (Value.slice (some ⟨w1.heap.size,0,none⟩) 1 1).ownBlock from fun x hx=>HA.out.ps.kid_new hx (Nat.le_refl _))
  have HA1:=hid (HA.out.alloc (.cells #[.int .i64 (hd ks)] 3))
  have hk0:1≤k1:=by omega
  clear hl1 hf1 GO HA hg1
  obtain⟨av,hav⟩:∃ av,av=hd ks:=⟨_,rfl⟩
  rw [← hav] at HR3 HID HOW HA1 ⊢
  clear hav
  have HNS:=hid HA1.out.ns
  go_wp2_with fail
  go_loopw [5] (fun v wr=>∃ (f k':Nat) (ext:List NV) (nv':Value) (acc:List Int) (q:Nat),f≤m∧k'≤l.length∧(xs ++ ext).length≤k'∧q≤k'∧Hid (acc.length=q)∧0 < q∧Hid (run l en f (.listT .expr acc) k' (nds (xs ++ ext))=some r)∧Hid (Wf (nds (xs ++ ext)))∧Hid (Ids acc (xs ++ ext).length) ∧
    Hid (At g tv l en iv w xs nv k' (nds (xs ++ ext)) wr ext nv')∧wr.ownsRow w.heap.size 3 1 v q (intCells acc)∧Hid (∀ x ∈ ext,x.2.ownBlock=none∨x.2.ownBlock ≠ v.ownBlock)) (fun _ wr=>toGo g l.length wr)
  case atStart=>exact⟨m,k1,ext,nv1,[av],1,Nat.le_refl _,hk1,hcn,hk0,hid rfl,by omega,HR3,HWF,HID,by rw [HNS.out];exact HA1,HOW.out,HNE⟩
  case round =>
   clear HA1 HOW HNE HR3 HWF HID hcn hk1 HNS hk0
   obtain⟨f,k',ext,nv',acc,q,hfm,hk',hn',hq',HQ,hq0,HRT,HWF,HID,HA,hown,HNE⟩:=hrel
   obtain⟨f,rfl⟩:∃ f0,f=f0+1:=⟨f - 1,by
    rcases Nat.eq_zero_or_pos f with h | h
    ·subst h;have:=HRT.out;rw [run] at this;cases this
    ·omega⟩
   have HMS:=hid (HA.out.ps.toGo (n:=l.length))
   obtain⟨A5,c5,rfl⟩:=own_form hown
   have HOW:=hid hown;clear hown
   by_cases hc:tx l k'=[44]
   case neg =>
    have HST:=hid (show r=.ok acc k' (nds (xs ++ ext)) by have:=HRT.out;rw [run,if_neg hc] at this;exact (Option.some.inj this).symm)
    go_wp2_with fail
    refine (has_no g tv l en iv hF [44] (.inr (by decide +kernel)) _ k' _ nv' HA.out.ps hk' hc).mono ?_
    rintro e w2 ⟨rfl,hb2⟩
    have HA2:=hid (HA.out.below hb2)
    have HO2:=hid (own_below HOW.out hb2);clear hb2
    go_wp2_with fail
    go_ret
    rw [HST.out]
    exact LPost.ok rfl (by rw [HQ.out];exact HO2.out) HA2.out HNE.out
   case pos =>
    have hkl:=tx_lt hc (by simp)
    have HGO:=hid (show thn (run l en f El.expr.job (k'+1) (nds (xs ++ ext))) (fun a k1 ns1=>run l en f (.listT .expr (acc ++ [hd a])) k1 ns1)=some r by have:=HRT.out;rw [run,if_pos hc] at this;exact this)
    go_wp2_with fail
    refine (has_yes g tv l en iv hF [44] (.inr (by decide +kernel)) _ k' _ nv' HA.out.ps hk' hc).mono ?_
    rintro e w2 ⟨rfl,p2,m2⟩
    have HA2:=hid (HA.out.step p2 m2)
    have HO2:=hid (HA.out.ps.row_mv m2 HOW.out (by decide) (by decide));clear p2 m2
    clear hc HRT
    go_wp2_with fail
    rcases hx:run l en f El.expr.job (k'+1) (nds (xs ++ ext)) with _ | x
    ·have:=HGO.out;rw [hx] at this;cases this
    have HX:=hid hx;clear hx
    have HG2:=hid (show thn (some x) (fun a k1 ns1=>run l en f (.listT .expr (acc ++ [hd a])) k1 ns1)=some r by have:=HGO.out;rw [HX.out] at this;exact this)
    clear HGO
    cases x with
    | bad kb =>
     obtain rfl:Res.bad kb=r:=Option.some.inj HG2.out
     have HLOW:=hid (H.out.low HA2.out.mv)
     refine (HC.out f (by omega) _ (k'+1) (xs ++ ext) nv' _ HA2.out.ps (by omega) (by omega) HWF.out HX.out).mono ?_
     rintro e w4 ⟨rfl,hb4⟩
     unfold wrongAt
     go_wp2_with fail
     exact⟨rfl,LPost.bad rfl (HLOW.out.trans hb4)⟩
    | ok kb k1 ns1 =>
     have GO:=hid (run_goes HX.out (by omega) HWF.out (Ids.nil _) (by simp [El.job]))
     refine (HC.out f (by omega) _ (k'+1) (xs ++ ext) nv' _ HA2.out.ps (by omega) (by omega) HWF.out HX.out).mono ?_
     rintro e w4 ⟨rfl,ext4,nv4,ha4⟩
     have HA4:=hid ha4;clear ha4
     have HO4:=hid (HA2.out.ps.row_mv HA4.out.mv HO2.out (by decide) (by decide))
     have HA34:=hid (HA2.out.trans HA4.out)
     have hsz4:=HA34.out.mv.size
     have HN4:=hid (show ∀ x ∈ ext ++ ext4,x.2.ownBlock=none∨x.2.ownBlock ≠ (Value.slice A5 q c5).ownBlock from fun x hx=>by
      rcases List.mem_append.1 hx with hx | hx
      ·exact HNE.out x hx
      ·exact fresh_ne HA4.out.fresh hx (fun b hb=>(HO2.out.lt b hb).2))
     have g1:=GO.out.lo
     have g2:=GO.out.few
     have g3:=GO.out.le
     have g4:=HA34.out.len
     have g5:=GO.out.len
     simp only [nds_len] at g2 g5
     simp only [Job.reads,El.job] at g1
     have hqm:q+1≤100000:=by omega
     have HG4:=hid g4;clear g4
     go_wp2_with (at_builtin
                  refine wpList_append_lies _ rfl (.tmp 12) (.tmp 16) 24 rfl w.heap.size 3 i0 _ 1 8 Tryz.underlying24 hi0 hz0 hz1 hz2 rfl (by decide) _ q (intCells acc) rfl
                    (HO4.out.alloc _) ⟨w4.heap.size,0,none⟩ 1 1 [.int .i64 (hd kb)] rfl rfl (cells_new _ _ _) (by intro u hu;simp at hu;subst hu;rfl) (by omega) (by simp only [maxLen];omega) (by omega) (by simp;omega) (w4.heap.size+1) (by simp) ?_
                  intro gg cap w5 hown2 hg5 hat5 hgl)
     have HA5:=hid ((HA34.out.alloc (.cells #[.int .i64 (hd kb)] 3)).grown H.out HO4.out (by decide) hg5 HN4.out)
     have HAT:=hid hat5;clear hat5
     have HGR:=hid hg5;clear hg5
     refine⟨⟨f,k1,ext ++ ext4,nv4,acc ++ [hd kb],q+1,by omega,g3,by rw [HG4.out];omega,by omega,hid (by rw [List.length_append,HQ.out];rfl),by omega,hid (by rw [HA34.out.ns];exact HG2.out),hid (by rw [HA34.out.ns];exact GO.out.wf),hid (by rw [HG4.out];exact (HID.out.mono g5).app (Ids.cons GO.out.hd (Ids.nil _))),
      hid (by rw [HA34.out.ns];exact HA5.out),by rw [intCells_append];exact hown2,hid (fun x hx=>?_)⟩,?_⟩
     ·show x.2.ownBlock=none∨x.2.ownBlock ≠ some gg
      rcases HAT.out with e | e
      ·rw [← e];exact HN4.out x hx
      ·rcases h9:x.2.ownBlock with _ | b
       ·exact .inl rfl
       ·right
        intro e2
        injection e2 with e2
        have:=(World.ownsRow.lt (HA34.out.ps.kids x (List.mem_append_right _ hx)) b h9).2
        omega
     ·rw [HMS.out,HA5.out.ps.toGo];omega
end
end Go.Proofs.YthepmkjggfijoaaGreatDoor
