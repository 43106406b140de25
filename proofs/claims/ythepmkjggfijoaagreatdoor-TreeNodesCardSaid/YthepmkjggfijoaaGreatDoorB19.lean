/-
  PARTS of the proof: TIask, TJ0, TJ, TK0.
-/
import Derived.Defers
import Derived.Recover
import Derived.Test.YthepmkjggfijoaaGreatDoorB16
import Derived.Test.YthepmkjggfijoaaGreatDoorB17
import Derived.Test.YthepmkjggfijoaaGreatDoorB18
set_option linter.all false
set_option maxRecDepth 100000
set_option maxHeartbeats 4000000
open Go.Lib (hid)
namespace Go.Proofs.YthepmkjggfijoaaGreatDoor
open Go.RowKit Mist
attribute [local go_sem] ofL_extract ofL_size ofL_get ofL_bytes ofL_append
section
variable {g:Nat} {tv:Value} {l:List Tok} {en:Int} {iv:Value} (hF:PF l)
include hF
theorem item_ask (m:Nat) (w:World) (k:Nat) (xs:List NV) (nv:Value) (r:Res) (h:PS g tv l en iv w (k+1) xs nv) (hk:k+1≤l.length) (hn:xs.length≤k) (hw:Wf (nds xs)) (hr:itemAt l en m .ask k (nds xs)=some r) :
  Calls Tryz.prog 188 #[.pointer (some ⟨g,0,none⟩),.agg #[.int .u8 (tg l k).kind,.string (ofL (tx l k)),.int .i64 (pl l en k)]] w (IPost g tv l en iv w xs nv r):=by
 have C:=fun (f:Nat) (_:f≤m) (j:Job) (hj:isFn j=true)=>parts_any (g:=g) (tv:=tv) (en:=en) (iv:=iv) hF f j hj
 have CL:=fun (f:Nat) (_:f≤m) (e:El)=>lists_any (g:=g) (tv:=tv) (en:=en) (iv:=iv) hF f e
 have H:=hid h;clear h
 have HAI:=hid ((At.refl H.out).alloc (.cells #[.int .u8 (tg l k).kind,.string (ofL (tx l k)),.int .i64 (pl l en k)] 68))
 have HBI:=hid (Blk.new w 68 #[.int .u8 (tg l k).kind,.string (ofL (tx l k)),.int .i64 (pl l en k)])
 have HW0:=hid hw;clear hw
 have hn0:(nds xs).length≤k:=by rw [nds_len];exact hn
 have hlen:=hF.len
 unfold itemAt at hr
 have HR0:=hid hr;clear hr
 go_enter Tryz.func188,Tryz.ntmps188
 obtain⟨i0,hi0,hz0,hz1,hz2⟩:=info_parts int_info
 have hru:=HR0.out;unfold askAt at hru;have HRU1:=hid hru;clear hru
 go_wp2_with fail
 refine (queries_any _).mono ?_
 rintro e w2 ⟨rfl,rfl⟩
 have hms:=heap_alloc_new (w.alloc (.cells #[.int .u8 (tg l k).kind,.string (ofL (tx l k)),.int .i64 (pl l en k)] 68)) (.map (sEs qents 0).toArray 8)
 rw [show (w.alloc (.cells #[.int .u8 (tg l k).kind,.string (ofL (tx l k)),.int .i64 (pl l en k)] 68)).heap.size=w.heap.size+1 by simp] at hms;have HM:=hid hms;clear hms
 have HB2_0:=hid (HBI.out.alloc (.map (sEs qents 0).toArray 8))
 clear HBI
 have HA2:=hid (HAI.out.alloc (.map (sEs qents 0).toArray 8))
 clear HAI
 go_wp2_with fail
 refine (look_any g tv l en iv _ (k+1) _ _ HA2.out.ps (by omega) hlen).mono ?_
 rintro e w3 ⟨rfl,hb3⟩
 have HM2:=hid ((hb3.block _ (Array.getElem?_eq_some_iff.1 HM.out).1).trans HM.out)
 have HB3_0:=hid (HB2_0.out.below hb3 HB2_0.out.lt)
 clear HB2_0
 have HA3:=hid (HA2.out.below hb3)
 clear HA2
 clear hb3
 have hlk:=lookup_q _ _ _ HM2.out (tx l (k+1))
 have tf1:=tok_field1
 obtain⟨Q,hQ⟩:∃ Q,Q=queryOf (tx l (k+1)):=⟨_,rfl⟩
 rw [← hQ] at hlk
 have hr9:=HRU1.out;rw [← hQ] at hr9
 have hQ8:Q≤8:=by rw [hQ];unfold queryOf;(repeat' split) <;> omega
 have hQt:Q ≠ 0→k+1 < l.length:=fun h=>tx_lt (s:=tx l (k+1)) rfl (fun e9=>h (by rw [hQ,e9];rfl))
 clear hQ
 rcases if_split hr9 with ⟨he20,hr20⟩ | ⟨he20,hr20⟩
 all_goals clear hr9
 ·skip
  obtain rfl:Res.bad (k+1)=r:=Option.some.inj hr20
  subst he20
  have hq9:(((0:Nat):Int) == 0)=true:=rfl
  go_wp2_with fail
  refine (fail_any g tv l en iv _ (k+1) _ _ HA3.out.ps (by omega) hlen).mono ?_
  rintro e wq ⟨rfl,hbq⟩
  (try unfold wrongAt)
  go_wp2_with fail
  exact⟨rfl,IPost.bad rfl ((H.out.low HA3.out.mv).trans (hbq.mono (Nat.le_of_lt HA3.out.ps.lt)))⟩
 ·skip
  have hlt20:=hQt he20
  have HRQ:=hid hr20;clear hr20
  have hq9:((Q:Int) == 0)=false:=by simp;omega
  go_wp2_with fail
  refine (take_any g tv l en iv _ (k+1) _ _ HA3.out.ps (by omega) hlen).mono ?_
  rintro e w4 ⟨rfl,p4,m4⟩
  clear hlk hq9
  have HB4_0:=hid (m4.blk HB3_0.out (HA3.out.ps.tag HB3_0.out (by decide) (by decide)).1 (HA3.out.ps.tag HB3_0.out (by decide) (by decide)).2)
  clear HB3_0
  have HA4:=hid (HA3.out.step p4 m4)
  clear HA3
  clear p4 m4
  rcases if_split HRQ.out with ⟨he21,hr21⟩ | ⟨he21,hr21⟩
  ·skip
   subst he21
   have HRS:=hid hr21;clear hr21
   obtain rfl:=add_split HRS.out
   have sc0_0:=HB4_0.out.cell 0
   have sc0_1:=HB4_0.out.cell 1
   have sc0_2:=HB4_0.out.cell 2
   have sl0:=HB4_0.out.lt
   go_wp2_with fail
   refine (add_at g tv l en iv (nds xs).length 46 _ _ _ [] 7 _ [] _ ((k+1)+1) _ _ HA4.out.ps (KidRow.none_ _) HA4.out.len (by omega)).mono ?_
   rintro e w5 ⟨rfl,nv5,p5,m5⟩
   have HAF:=hid (HA4.out.add p5 m5 (by intro b hb;simp [Value.ownBlock] at hb));clear p5 m5
   go_wp2_with fail
   go_ret
   exact IPost.ok rfl HAF.out
  ·skip
   rcases if_split hr21 with ⟨he22,hr22⟩ | ⟨he22,hr22⟩
   all_goals clear hr21
   ·skip
    subst he22
    have HRS:=hid hr22;clear hr22
    rcases thn_split HRS.out with ⟨ks6,k6,ns6,hx6,hr6⟩ | ⟨kb6,hx6,rfl⟩
    rotate_left
    ·have HX6:=hid hx6;clear hx6
     go_wp2_with fail
     refine (CL m (Nat.le_refl _) .expr _ ((k+1)+1) _ _ _ HA4.out.ps (by omega) (by rw [HA4.out.len];omega) (by rw [HA4.out.ns];exact HW0.out) (by rw [HA4.out.ns];exact HX6.out)).mono ?_
     rintro e w6 ⟨rfl,hb6⟩
     (try unfold wrongAt)
     go_wp2_with fail
     exact⟨rfl,IPost.bad rfl ((H.out.low HA4.out.mv).trans hb6)⟩
    have HX6:=hid hx6;clear hx6
    have HR6:=hid hr6;clear hr6 HRS
    go_wp2_with fail
    refine (CL m (Nat.le_refl _) .expr _ ((k+1)+1) _ _ _ HA4.out.ps (by omega) (by rw [HA4.out.len];omega) (by rw [HA4.out.ns];exact HW0.out) (by rw [HA4.out.ns];exact HX6.out)).mono ?_
    rintro e w6 ⟨v6,ext6,nv6,rfl,ho6,ha6,hd6⟩
    have HV6:=hid (own_base (base':=w.heap.size) ho6 (fun b hb=>Nat.le_trans HA4.out.mv.size (ho6.lt b hb).1));clear ho6 hd6
    have GO6:=hid (run_goes HX6.out (by omega) HW0.out (Ids.nil _) (by simp))
    have gl6:=GO6.out.lo;have gf6:=GO6.out.few;have ge6:=GO6.out.le;have gn6:=GO6.out.len
    simp only [Job.reads] at gl6
    have HB6_0:=hid (ha6.blk HA4.out.ps HB4_0.out (by decide) (by decide))
    clear HB4_0
    have HWF6:=hid GO6.out.wf
    have HA6:=hid (HA4.out.trans ha6)
    clear HA4
    clear ha6
    obtain rfl:=add_split HR6.out
    have sc0_0:=HB6_0.out.cell 0
    have sc0_1:=HB6_0.out.cell 1
    have sc0_2:=HB6_0.out.cell 2
    have sl0:=HB6_0.out.lt
    go_wp2_with fail
    refine (add_at g tv l en iv ns6.length 46 _ _ _ [] 8 _ ks6 _ k6 _ _ HA6.out.ps (own_base HV6.out (fun _ _=>Nat.zero_le _)) HA6.out.len (by omega)).mono ?_
    rintro e w7 ⟨rfl,nv7,p7,m7⟩
    have HAF:=hid (HA6.out.add p7 m7 (fun b hb=>(HV6.out.lt b hb).1));clear p7 m7
    go_wp2_with fail
    go_ret
    exact IPost.ok rfl HAF.out
   ·skip
    have HRS:=hid hr22;clear hr22
    have u7:((Q:Int) == 7)=false:=by simp;omega
    have u8:((Q:Int) == 8)=false:=by simp;omega
    have HVN:=hid (show w4.ownsRow w.heap.size 3 1 (.slice none 0 0) 0 (intCells []) from World.ownsRow_nil _ _ _ _)
    have HQN:=hid (show ([]:List Int).length=0 from rfl)
    have HNEN:=hid (ne_nil (ext:=[]))
    rcases thn_split HRS.out with ⟨ks8,k8,ns8,hx8,hr8⟩ | ⟨kb8,hx8,rfl⟩
    rotate_left
    ·have HX8:=hid hx8;clear hx8
     go_wp2_with fail
     refine (C m (Nat.le_refl _) .expr rfl _ ((k+1)+1) _ _ _ HA4.out.ps (by omega) (by rw [HA4.out.len];omega) (by rw [HA4.out.ns];exact HW0.out) (by rw [HA4.out.ns];exact HX8.out)).mono ?_
     rintro e w8 ⟨rfl,hb8⟩
     (try unfold wrongAt)
     go_wp2_with fail
     exact⟨rfl,IPost.bad rfl ((H.out.low HA4.out.mv).trans hb8)⟩
    have HX8:=hid hx8;clear hx8
    have HR8:=hid hr8;clear hr8 HRS
    go_wp2_with fail
    refine (C m (Nat.le_refl _) .expr rfl _ ((k+1)+1) _ _ _ HA4.out.ps (by omega) (by rw [HA4.out.len];omega) (by rw [HA4.out.ns];exact HW0.out) (by rw [HA4.out.ns];exact HX8.out)).mono ?_
    rintro e w8 ⟨rfl,ext8,nv8,ha8⟩
    have GO8:=hid (run_goes HX8.out (by omega) HW0.out (Ids.nil _) (by simp))
    have gl8:=GO8.out.lo;have gf8:=GO8.out.few;have ge8:=GO8.out.le;have gn8:=GO8.out.len
    simp only [Job.reads] at gl8
    have HB8_0:=hid (ha8.blk HA4.out.ps HB4_0.out (by decide) (by decide))
    clear HB4_0
    have HNE8:=hid (ne_snoc HNEN.out ha8.fresh (fun b hb=>(HVN.out.lt b hb).2));clear HNEN
    have HV8_0:=hid (HA4.out.ps.row_mv ha8.mv HVN.out (by decide) (by decide))
    clear HVN
    have HWF8:=hid GO8.out.wf
    have HA8:=hid (HA4.out.trans ha8)
    clear HA4
    clear ha8
    go_wp2_with (at_builtin
                 refine wpList_append_lies _ rfl (.tmp 19) (.tmp 22) 24 rfl w.heap.size 3 i0 _ 1 8 Tryz.underlying24 hi0 hz0 hz1 hz2 rfl (by decide) _ 0 (intCells []) rfl
                   (HV8_0.out.alloc _) ⟨w8.heap.size,0,none⟩ 1 1 [.int .i64 (hd ks8)] rfl rfl (cells_new _ _ _) (by intro u hu;simp at hu;subst hu;rfl) (by omega) (by simp only [maxLen];omega) (by omega) (by have:=HA8.out.mv.size;simp;omega) (w8.heap.size+1) (by simp) ?_
                 intro gg9 cap9 w9 hown9 hg9 hat9 hgl9;have bz0:=blk_grown HB8_0.out HV8_0.out hg9 (by decide);have sz0_0:=bz0.cell 0;have sz0_1:=bz0.cell 1;have sz0_2:=bz0.cell 2;have szl0:=bz0.lt)
    have HNE9:=hid (ne_grown HA8.out.ps HNE8.out hat9 (0+1) cap9);clear hat9
    have HB9_0:=hid (blk_grown HB8_0.out HV8_0.out hg9 (by decide))
    have HA9:=hid ((HA8.out.alloc (.cells #[.int .i64 (hd ks8)] 3)).grown H.out HV8_0.out (by decide) hg9 HNE8.out)
    have HV9:=hid (show w9.ownsRow w.heap.size 3 1 (.slice (some ⟨gg9,0,none⟩) (0+1) cap9) (0+1) (intCells ([] ++ [hd ks8])) by rw [intCells_append];exact hown9);clear hown9
    have HQ9:=hid (show ([] ++ [hd ks8]).length=0+1 by rw [List.length_append,HQN.out];rfl)
    clear hg9 hgl9
    obtain rfl:=add_split HR8.out
    have sc0_0:=HB9_0.out.cell 0
    have sc0_1:=HB9_0.out.cell 1
    have sc0_2:=HB9_0.out.cell 2
    have sl0:=HB9_0.out.lt
    refine (add_at g tv l en iv ns8.length 46 _ _ _ [] (Q:Int) _ ([] ++ [hd ks8]) _ k8 _ _ HA9.out.ps (kid_of HQ9.out HV9.out) HA9.out.len (by omega)).mono ?_
    rintro e w10 ⟨rfl,nv10,p10,m10⟩
    have HAF:=hid (HA9.out.add p10 m10 (fun b hb=>(HV9.out.lt b hb).1));clear p10 m10
    go_wp2_with fail
    go_ret
    exact IPost.ok rfl HAF.out
end
end Go.Proofs.YthepmkjggfijoaaGreatDoor
namespace Go.Proofs.YthepmkjggfijoaaGreatDoor
open Go.RowKit Mist
section
variable {g:Nat} {tv:Value} {l:List Tok} {en:Int} {iv:Value} (hF:PF l)
include hF
theorem item_all (i:It) (m:Nat) (w:World) (k:Nat) (xs:List NV) (nv:Value) (r:Res) (h:PS g tv l en iv w (k+1) xs nv) (hk:k+1≤l.length) (hn:xs.length≤k) (hw:Wf (nds xs)) (hr:itemAt l en m i k (nds xs)=some r) :
  Calls Tryz.prog (itFn i) #[.pointer (some ⟨g,0,none⟩),.agg #[.int .u8 (tg l k).kind,.string (ofL (tx l k)),.int .i64 (pl l en k)]] w (IPost g tv l en iv w xs nv r):=by
 cases i with
 | choose=>exact item_choose hF m w k xs nv r h hk hn hw hr
 | record=>exact item_record hF m w k xs nv r h hk hn hw hr
 | fun_=>exact item_fun_ hF m w k xs nv r h hk hn hw hr
 | let_=>exact item_let_ hF m w k xs nv r h hk hn hw hr
 | observe=>exact item_observe hF m w k xs nv r h hk hn hw hr
 | retract=>exact item_retract hF m w k xs nv r h hk hn hw hr
 | ask=>exact item_ask hF m w k xs nv r h hk hn hw hr
end
theorem zero_reader (w:World):(zeroValue 145).run Tryz.prog w=.ok .nilFunc w:=by kernel_rfl
theorem lookup_it (w:World) (m c:Nat) (hm:w.heap[m]? = some (.map (sEs ients 0).toArray c)) (x:Bs):(Instr.lookup 141 (.map (some m)) (.string (ofL x)) true).run Tryz.prog w=.ok (.tuple #[((itOf x).map fun i=>fv (itFn i)).getD .nilFunc,.bool (itOf x).isSome]) w:=by
 have h:=lookup_s 141 145 .nilFunc Tryz.underlying141 w (zero_reader w) ients m c hm x true
 rw [h,ients_of];simp
structure PR (g:Nat) (tv:Value) (l:List Tok) (en:Int) (iv:Value) (w:World) (k:Nat) (xs:List NV) (nv:Value) (its:List Int) (q:Nat):Prop where
 ps:PS g tv l en iv w k xs nv
 len:its.length=q
 row:w.ownsRow (g+1) 3 1 iv q (intCells its)
 ne:∀ x ∈ xs,x.2.ownBlock=none∨x.2.ownBlock ≠ iv.ownBlock
 far:∀ x ∈ xs,∀ b,x.2.ownBlock=some b→g < b
section
variable {g:Nat} {tv:Value} {l:List Tok} {en:Int} {iv:Value} {w w1 w2:World} {k k1:Nat} {xs ext:List NV} {nv nv1:Value} {its:List Int} {q:Nat}
theorem PR.below (h:PR g tv l en iv w k xs nv its q) (hb:Below w.heap.size w w1):PR g tv l en iv w1 k xs nv its q :=
 ⟨h.ps.below hb,h.len,own_below h.row hb,h.ne,h.far⟩
theorem PR.alloc (h:PR g tv l en iv w k xs nv its q) (o:Obj):PR g tv l en iv (w.alloc o) k xs nv its q:=h.below ((Below.refl _ _).alloc (Nat.le_refl _) o)
theorem PR.drew (h:PR g tv l en iv w k xs nv its q):PR g tv l en iv w.drew k xs nv its q:=h.below (Below.drew (Below.refl _ _))
theorem PR.step (h:PR g tv l en iv w k xs nv its q) (p:PS g tv l en iv w1 k1 xs nv) (m:Mv g nv.ownBlock w nv.ownBlock w1):PR g tv l en iv w1 k1 xs nv its q :=
 ⟨p,h.len,h.ps.row_mv m h.row (by decide) (by decide),h.ne,h.far⟩
theorem PR.at_ {ns1:List Nd} (h:PR g tv l en iv w k xs nv its q) (a:At g tv l en iv w xs nv k1 ns1 w1 ext nv1):PR g tv l en iv w1 k1 (xs ++ ext) nv1 its q :=
 ⟨a.ps,h.len,h.ps.row_mv a.mv h.row (by decide) (by decide),ne_snoc h.ne a.fresh (fun b hb=>(h.row.lt b hb).2),fun x hx b hb=>by
  rcases List.mem_append.1 hx with hx | hx
  ·exact h.far x hx b hb
  ·have:=a.fresh x hx b hb;have:=h.ps.lt;omega⟩
theorem PR.grown {o:Obj} {a:Int} {gg cap:Nat} (h:PR g tv l en iv w k xs nv its q) (hg:(w.alloc o).grownBy w2 iv.ownBlock) (hat:iv.ownBlock=some gg∨gg=w.heap.size+1)
  (hown:w2.ownsRow (g+1) 3 1 (.slice (some ⟨gg,0,none⟩) (q+1) cap) (q+1) (intCells its ++ [.int .i64 a])) :
  PR g tv l en (.slice (some ⟨gg,0,none⟩) (q+1) cap) (w2.setCell ⟨g,4,none⟩ (.slice (some ⟨gg,0,none⟩) (q+1) cap)) k xs nv (its ++ [a]) (q+1):=by
 have p:=(h.ps.alloc o).grown hg (fun b hb=>by
  have hb2:=h.row.lt b hb
  refine⟨by omega,fun e=>?_,fun x hx e=>?_⟩
  ·rcases own_own_ne h.row h.ps.own (by decide) with e2 | e2
   ·rw [hb] at e2;cases e2
   ·exact e2 (hb.trans e.symm)
  ·rcases h.ne x hx with e2 | e2
   ·rw [e] at e2;cases e2
   ·exact e2 (e.trans hb.symm))
 have m:Mv g nv.ownBlock w2 nv.ownBlock (w2.setCell ⟨g,4,none⟩ (.slice (some ⟨gg,0,none⟩) (q+1) cap)):=Mv.set_ p.blk 4 _
 refine⟨⟨(by have:=p.blk.set_ 4 (.slice (some ⟨gg,0,none⟩) (q+1) cap);simpa using this),ownsRow_setCell_other p.own (own_blk_ne p.own p.blk (by decide)) _,fun x hx=>p.kid_mv m (p.kids x hx),p.toks.below (p.low m),tab_below p.env (p.low m)⟩,by rw [List.length_append,h.len];rfl,?_,ne_grown (xs:=[]) h.ps h.ne hat _ _,h.far⟩
 rw [intCells_append]
 exact ownsRow_setCell_other hown (own_blk_ne hown p.blk (by decide)) _
theorem PR.low {o:Obj} {u:Value} {i:Nat} (h:PR g tv l en iv w k xs nv its q) (hg:(w.alloc o).grownBy w2 iv.ownBlock):Below g w (w2.setCell ⟨g,i,none⟩ u) :=
 bset (((Below.refl _ _).alloc (Nat.le_of_lt h.ps.lt) o).grown hg (by have:=h.ps.lt;simp;omega) (fun b hb=>by have:=(h.row.lt b hb).1;omega)) (Nat.le_refl _)
theorem PR.more {w4 w5 w6:World} {ns1:List Nd} {o:Obj} {a:Int} {gg cap bm c:Nat} {es:Array MapEntry} (h4:PR g tv l en iv w4 k xs nv its q) (a5:At g tv l en iv w4.drew xs nv k1 ns1 w5 ext nv1) (hg:(w5.alloc o).grownBy w6 iv.ownBlock) (hat:iv.ownBlock=some gg∨gg=w5.heap.size+1)
  (hown:w6.ownsRow (g+1) 3 1 (.slice (some ⟨gg,0,none⟩) (q+1) cap) (q+1) (intCells its ++ [.int .i64 a])) (hm:w4.heap[bm]? = some (.map es c)) :
  PR g tv l en (.slice (some ⟨gg,0,none⟩) (q+1) cap) (w6.setCell ⟨g,4,none⟩ (.slice (some ⟨gg,0,none⟩) (q+1) cap)) k1 (xs ++ ext) nv1 (its ++ [a]) (q+1)∧Below g w4 (w6.setCell ⟨g,4,none⟩ (.slice (some ⟨gg,0,none⟩) (q+1) cap))∧(w6.setCell ⟨g,4,none⟩ (.slice (some ⟨gg,0,none⟩) (q+1) cap)).heap[bm]? = some (.map es c):=by
 have h5:=h4.drew.at_ a5
 have hm5:w5.heap[bm]? = some (.map es c):=a5.map h4.drew.ps hm
 have hm6:(w5.alloc o).heap[bm]? = some (.map es c):=alloc_keep hm5 _
 have hlt:bm < (w5.alloc o).heap.size:=(Array.getElem?_eq_some_iff.1 hm6).1
 refine⟨h5.grown hg hat hown,(((Below.drew (Below.refl _ _)).trans (h4.drew.ps.low a5.mv)).trans (h5.low hg)),?_⟩
 have hne:some bm ≠ iv.ownBlock:=by
  intro e
  rcases h5.row.2 with ⟨hv,_⟩ | ⟨b',cap,cur,hv,_,hh,_⟩
  ·rw [hv] at e;simp [Value.ownBlock] at e
  ·rw [hv] at e;simp [Value.ownBlock] at e
   rw [← e,hm5] at hh;cases hh
 have hng:bm ≠ g:=(h5.ps.map_ne hm5).1
 exact (Below.heap_setCell w6 ⟨g,4,none⟩ _ bm (by simpa using hng)).trans ((hg.block bm hlt hne).trans hm6)
end
end Go.Proofs.YthepmkjggfijoaaGreatDoor
namespace Go.Proofs.YthepmkjggfijoaaGreatDoor
open Go.RowKit Mist
attribute [local go_sem] ofL_extract ofL_size ofL_get ofL_bytes ofL_append
def PPost (g:Nat) (tv:Value) (l:List Tok) (en:Int) (w:World) (r:Res) (e:Ending) (w':World):Prop :=
 match r with
 | .ok its k ns=>(∃ v,e=.returned v)∧(∃ xs nv iv q,PR g tv l en iv w' k xs nv its q∧nds xs=ns)∧Below g w w'
 | .bad k=>e=wrongAt l en k∧Below g w w'
theorem PPost.bad {g:Nat} {tv:Value} {l:List Tok} {en:Int} {w w1:World} {k:Nat} {e:Ending} (he:e=wrongAt l en k) (hb:Below g w w1):PPost g tv l en w (.bad k) e w1:=⟨he,hb⟩
section
variable {g:Nat} {tv:Value} {l:List Tok} {en:Int} (hF:PF l)
include hF
theorem program_any (n f:Nat) (w:World) (k q:Nat) (xs:List NV) (nv iv:Value) (its:List Int) (r:Res) (h:PR g tv l en iv w k xs nv its q) (hk:k≤l.length) (hn:xs.length≤k) (hq:q≤k) (hw:Wf (nds xs)) (hr:prog l en n f k (nds xs) its=some r) :
  Calls Tryz.prog 93 #[.pointer (some ⟨g,0,none⟩)] w (PPost g tv l en w r):=by
 obtain⟨A,c,rfl,hlc,_⟩:=h.ps.toks
 obtain⟨i0,hi0,hz0,hz1,hz2⟩:=info_parts int_info
 have H:=hid h;clear h
 have HW0:=hid hw;clear hw
 have HP0:=hid hr;clear hr
 have hlen:=hF.len
 have hgl:=H.out.ps.lt
 go_enter Tryz.func93,Tryz.ntmps93
 go_wp2_with fail
 refine (items_any _).mono ?_
 rintro e w1 ⟨rfl,rfl⟩
 have HM0:=hid (heap_alloc_new w (.map (sEs ients 0).toArray 7))
 have H1:=hid (H.out.alloc (.map (sEs ients 0).toArray 7))
 have HB0:=hid (balloc (Below.refl g w) (Nat.le_of_lt hgl) (o:=.map (sEs ients 0).toArray 7))
 go_wp2_with fail
 go_loopw [3] (fun bv wr=>∃ (f' k' q':Nat) (xs':List NV) (nv' iv':Value) (its':List Int),k'≤l.length∧xs'.length≤k'∧q'≤k'∧Hid (PR g (.slice A l.length c) l en iv' wr k' xs' nv' its' q')∧Hid (wr.heap[w.heap.size]? = some (.map (sEs ients 0).toArray 7))∧Hid (Wf (nds xs'))∧Hid (prog l en n f' k' (nds xs') its'=some r)∧Hid (Below g w wr)) (fun _ wr=>toGo g l.length wr)
 case atStart=>exact⟨f,k,q,xs,nv,iv,its,hk,hn,hq,H1,HM0,HW0,HP0,HB0⟩
 case round =>
  clear HM0 H1 HB0 HP0 HW0 hk hn hq
  obtain⟨f',k',q',xs',nv',iv',its',hk',hn',hq',HR,HM,HW,HP,HB⟩:=hrel
  obtain⟨f',rfl⟩:∃ f0,f'=f0+1:=⟨f' - 1,by
   rcases Nat.eq_zero_or_pos f' with h | h
   ·subst h;have:=HP.out;rw [prog] at this;cases this
   ·omega⟩
  have HMS:=hid (HR.out.ps.toGo (n:=l.length))
  have c0:=HR.out.ps.blk.cell 0
  have c2:=HR.out.ps.blk.cell 2
  have hgr:=HR.out.ps.lt
  by_cases hkl:k' < l.length
  case neg =>
   have HST:=hid (show r=.ok its' k' (nds xs') by have:=HP.out;rw [prog,if_neg hkl] at this;exact (Option.some.inj this).symm)
   have d1:decide ((k':Int) < (l.length:Int))=false:=decide_eq_false (by omega)
   have d2:decide (k' < l.length)=false:=decide_eq_false (by omega)
   go_wp2_with fail
   go_quiet (fail)
   go_wp2_with fail
   refine bodyPost_ret (v:=.tuple #[]) (by simp [results,Tryz.f93,go_sem]) rfl ?_
   rw [HST.out]
   exact⟨⟨_,rfl⟩,⟨_,_,_,_,HR.out.below (bdrewN (Below.refl _ _) _),rfl⟩,bdrewN HB.out _⟩
  case pos =>
   have HGO:=hid (show thn (item l en n k' (nds xs')) (fun a k1 ns1=>need l [59] k1 <| prog l en n f' (k1+1) ns1 (its' ++ [hd a]))=some r by have:=HP.out;rw [prog,if_pos hkl] at this;exact this)
   clear HP
   have d1:decide ((k':Int) < (l.length:Int))=true:=decide_eq_true (by omega)
   have d2:decide (k' < l.length)=true:=decide_eq_true (by omega)
   go_wp2_with fail
   go_quiet (fail)
   clear d1 d2 c0 c2
   go_wp2_with fail
   refine (look_any g _ l en iv' _ k' _ _ (HR.out.below (bdrewN (Below.refl _ _) _)).ps (by omega) hlen).mono ?_
   rintro e w2 ⟨rfl,hb2⟩
   have HR2:=hid ((HR.out.below (bdrewN (Below.refl _ _) _)).below hb2)
   have hmd:=HM.out
   have hms:w.heap.size < wr.heap.size:=(Array.getElem?_eq_some_iff.1 hmd).1
   have HM2:=hid ((hb2.block w.heap.size hms).trans hmd);clear hmd
   have HB2:=hid ((bdrewN HB.out _).trans (hb2.mono (Nat.le_of_lt HR.out.ps.lt)))
   clear hb2 HR HM HB
   have HN2:=hid (Blk.new w2 68 #[.int .u8 (tg l k').kind,.string (ofL (tx l k')),.int .i64 (pl l en k')])
   have HR3:=hid (HR2.out.alloc (.cells #[.int .u8 (tg l k').kind,.string (ofL (tx l k')),.int .i64 (pl l en k')] 68))
   have HM3:=hid (alloc_keep HM2.out (.cells #[.int .u8 (tg l k').kind,.string (ofL (tx l k')),.int .i64 (pl l en k')] 68))
   have HB3:=hid (balloc HB2.out (Nat.le_of_lt HR2.out.ps.lt) (o:=(.cells #[.int .u8 (tg l k').kind,.string (ofL (tx l k')),.int .i64 (pl l en k')] 68)))
   have hlk:=lookup_it _ _ _ HM3.out (tx l k')
   have sc0:=HN2.out.cell 0
   have sc1:=HN2.out.cell 1
   have sc2:=HN2.out.cell 2
   have slt:=HN2.out.lt
   clear HR2 HM2 HB2
   rcases hi:itOf (tx l k') with _ | i
   ·rw [hi] at hlk
    simp only [Option.map_none,Option.getD_none,Option.isSome_none] at hlk
    have HST:=hid (show Res.bad k'=r by
     have h9:=HGO.out
     have e9:item l en n k' (nds xs')=some (.bad k'):=by unfold item;split <;> simp [hi]
     rw [e9] at h9;exact Option.some.inj h9)
    clear hi
    go_wp2_with fail
    refine (fail_any g _ l en iv' _ k' _ _ HR3.out.ps (by omega) hlen).mono ?_
    rintro e wq ⟨rfl,hbq⟩
    go_wp2_with fail
    rw [← HST.out]
    exact⟨rfl,PPost.bad rfl (HB3.out.trans (hbq.mono (Nat.le_of_lt HR3.out.ps.lt)))⟩
   have HI:=hid hi
   rw [hi] at hlk
   simp only [Option.map_some,Option.getD_some,Option.isSome_some] at hlk
   unfold fv at hlk
   clear hi
   by_cases hk3:(tg l k').kind=3
   case neg =>
    have n3:(((tg l k').kind:Int) != 3)=true:=by simp [bne];omega
    have HST:=hid (show Res.bad k'=r by
     have h9:=HGO.out
     have e9:item l en n k' (nds xs')=some (.bad k'):=by unfold item;rw [if_neg hk3]
     rw [e9] at h9;exact Option.some.inj h9)
    clear hk3
    go_wp2_with fail
    refine (fail_any g _ l en iv' _ k' _ _ HR3.out.ps (by omega) hlen).mono ?_
    rintro e wq ⟨rfl,hbq⟩
    go_wp2_with fail
    rw [← HST.out]
    exact⟨rfl,PPost.bad rfl (HB3.out.trans (hbq.mono (Nat.le_of_lt HR3.out.ps.lt)))⟩
   case pos =>
    have n3:(((tg l k').kind:Int) != 3)=false:=by rw [hk3];rfl
    have HG2:=hid (show thn (itemAt l en n i k' (nds xs')) (fun a k1 ns1=>need l [59] k1 <| prog l en n f' (k1+1) ns1 (its' ++ [hd a]))=some r by
     have h9:=HGO.out
     have e9:item l en n k' (nds xs')=itemAt l en n i k' (nds xs'):=by unfold item;rw [if_pos hk3,HI.out]
     rw [e9] at h9;exact h9)
    have HK3:=hid hk3;clear hk3 HGO
    go_wp2_with fail
    refine (take_any g _ l en iv' _ k' _ _ HR3.out.ps (by omega) hlen).mono ?_
    rintro e w4 ⟨rfl,p4,m4⟩
    clear hlk n3 sc0 sc1 sc2 slt
    have HR4:=hid (HR3.out.step p4 m4)
    have HM4:=hid ((m4.block _ (Array.getElem?_eq_some_iff.1 HM3.out).1 (HR3.out.ps.map_ne HM3.out).1 (HR3.out.ps.map_ne HM3.out).2).trans HM3.out)
    have HB4:=hid (HB3.out.trans (HR3.out.ps.low m4))
    have HN4:=hid (m4.blk HN2.out (HR3.out.ps.tag HN2.out (by decide) (by decide)).1 (HR3.out.ps.tag HN2.out (by decide) (by decide)).2)
    clear p4 m4 HR3 HM3 HB3 HN2
    have c4:=HR4.out.ps.blk.cell 4
    have sc0:=HN4.out.cell 0
    have sc1:=HN4.out.cell 1
    have sc2:=HN4.out.cell 2
    have slt:=HN4.out.lt
    have hl4:=HR4.out.ps.lt
    rcases hx:itemAt l en n i k' (nds xs') with _ | x
    ·have:=HG2.out;rw [hx] at this;cases this
    have HX:=hid hx;clear hx
    have HG3:=hid (show thn (some x) (fun a k1 ns1=>need l [59] k1 <| prog l en n f' (k1+1) ns1 (its' ++ [hd a]))=some r by have:=HG2.out;rw [HX.out] at this;exact this)
    clear HG2
    cases x with
    | bad kb =>
     have HST:=hid (show Res.bad kb=r from Option.some.inj HG3.out)
     cases i
     all_goals
      dsimp only [itFn]
      go_wp2_with fail
      refine wp_region_held_drew (S:=fun w'=>w'.cell? ⟨g,4,none⟩=some iv'∧w'.cell? ⟨w2.heap.size,0,none⟩=some (.int .u8 (tg l k').kind)∧w'.cell? ⟨w2.heap.size,1,none⟩=some (.string (ofL (tx l k')))∧w'.cell? ⟨w2.heap.size,2,none⟩=some (.int .i64 (pl l en k'))) (by kernel_rfl) ⟨c4,sc0,sc1,sc2⟩ (fun hHeld=>?_)
      refine take_nth (i:=0) .z (by kernel_rfl) (by kernel_rfl) (by kernel_rfl) (fun _ _ _ h=>h) (v:=?_) ⟨by rfl,?_⟩ hHeld ?_
      rotate_left
      ·(intro w0 hSw;(try dsimp only at hSw);go_split_ands;go_simp;try with_reducible rfl)
      simp only [Act.put,List.setIfInBounds_toArray,List.set_cons_zero,List.set_cons_succ]
      refine take_nth (i:=1) (.s .z) (by kernel_rfl) (by kernel_rfl) (by kernel_rfl) (fun _ _ _ h=>h) (v:=?_) ⟨by rfl,?_⟩ hHeld ?_
      rotate_left
      ·(intro w0 hSw;(try dsimp only at hSw);go_split_ands;go_simp;try with_reducible rfl)
      simp only [Act.put,List.setIfInBounds_toArray,List.set_cons_zero,List.set_cons_succ]
      refine take_nth (i:=2) (.s (.s .z)) (by kernel_rfl) (by kernel_rfl) (by kernel_rfl) (fun _ _ _ h=>h) (v:=?_) ⟨by rfl,?_⟩ hHeld ?_
      rotate_left
      ·(intro w0 hSw;(try dsimp only at hSw);go_split_ands;go_simp;try with_reducible rfl)
      simp only [Act.put,List.setIfInBounds_toArray,List.set_cons_zero,List.set_cons_succ]
      refine take_nth (i:=3) (.s (.s (.s .z))) (by kernel_rfl) (by kernel_rfl) (by kernel_rfl) (fun _ _ _ h=>h) (v:=?_) ⟨by rfl,?_⟩ hHeld ?_
      rotate_left
      ·(intro w0 hSw;(try dsimp only at hSw);go_split_ands;go_simp;try with_reducible rfl)
      simp only [Act.put,List.setIfInBounds_toArray,List.set_cons_zero,List.set_cons_succ]
      refine take_nth (i:=4) (.s (.s (.s (.s .z)))) (by kernel_rfl) (by kernel_rfl) (by kernel_rfl) (fun _ _ _ h=>h) (v:=?_) ⟨by rfl,?_⟩ hHeld ?_
      rotate_left
      ·(intro w0 hSw;(try dsimp only at hSw);go_split_ands;go_simp;try with_reducible rfl)
      simp only [Act.put,List.setIfInBounds_toArray,List.set_cons_zero,List.set_cons_succ]
      refine take_nth (i:=5) (.s (.s (.s (.s (.s .z))))) (by kernel_rfl) (by kernel_rfl) (by kernel_rfl) (fun _ _ _ h=>h) (v:=?_) ⟨by rfl,?_⟩ hHeld ?_
      rotate_left
      ·(intro w0 hSw;(try dsimp only at hSw);go_split_ands;go_simp;try with_reducible rfl)
      simp only [Act.put,List.setIfInBounds_toArray,List.set_cons_zero,List.set_cons_succ]
      refine take_nth (i:=6) (.s (.s (.s (.s (.s (.s .z)))))) (by kernel_rfl) (by kernel_rfl) (by kernel_rfl) (fun _ _ _ h=>h) (v:=?_) ⟨by rfl,?_⟩ hHeld ?_
      rotate_left
      ·(intro w0 hSw;(try dsimp only at hSw);go_split_ands;go_simp;try with_reducible rfl)
      simp only [Act.put,List.setIfInBounds_toArray,List.set_cons_zero,List.set_cons_succ]
      refine take_nth (i:=7) (.s (.s (.s (.s (.s (.s (.s .z))))))) (by kernel_rfl) (by kernel_rfl) (by kernel_rfl) (fun _ _ _ h=>h) (v:=?_) ⟨by rfl,?_⟩ hHeld ?_
      rotate_left
      ·(intro w0 hSw;(try dsimp only at hSw);go_split_ands;go_simp;try with_reducible rfl)
      simp only [Act.put,List.setIfInBounds_toArray,List.set_cons_zero,List.set_cons_succ]
      refine take_nth (i:=8) (.s (.s (.s (.s (.s (.s (.s (.s .z)))))))) (by kernel_rfl) (by kernel_rfl) (by kernel_rfl) (fun _ _ _ h=>h) (v:=?_) ⟨by rfl,?_⟩ hHeld ?_
      rotate_left
      ·(intro w0 hSw;(try dsimp only at hSw);go_split_ands;go_simp;try with_reducible rfl)
      simp only [Act.put,List.setIfInBounds_toArray,List.set_cons_zero,List.set_cons_succ]
      refine wpAnyH_ready (rs:=[9]) (by kernel_rfl) (by simp) ?_
      refine ready_nth (.s (.s (.s (.s (.s (.s (.s (.s (.s .z))))))))) (fun K hK=>?_)
      go_simp
      refine (item_all hF _ n _ k' xs' nv' _ HR4.out.ps.drew (by omega) hn' HW.out HX.out).mono ?_
      rintro e w5 ⟨rfl,hb5⟩
      unfold wrongAt
      go_wp2_with fail
      rw [← HST.out]
      exact⟨rfl,PPost.bad rfl (HB4.out.trans ((Below.drew (Below.refl _ _)).trans hb5))⟩
    | ok ks k1 ns1 =>
     have GO:=hid (item_goes (by omega) HW.out (show item l en n k' (nds xs')=some (.ok ks k1 ns1) by unfold item;rw [if_pos HK3.out,HI.out];exact HX.out))
     have go1:=GO.out.lo
     have go2:=GO.out.le
     have go3:=GO.out.few
     rw [nds_len] at go3
     have HG4:=hid (show need l [59] k1 (prog l en n f' (k1+1) ns1 (its' ++ [hd ks]))=some r from HG3.out)
     clear HG3
     cases i
     all_goals
      dsimp only [itFn]
      go_wp2_with fail
      have f4:=HR4.out.ps.blk.frozen 4
      go_region_law ((first
        | (guard_target =~ ((if Region.wanted _ _=true then _ else _:Prop));refine step_append_lies _ (by rfl) _ _ _ (by rfl) (g+1) 3 i0 _ 1 8 Tryz.underlying24 hi0 hz0 hz1 hz2 rfl (by omega) _ q' (intCells its') (by rfl) (HR5.out.alloc _).row ⟨w5.heap.size,0,none⟩ 1 1 [.int .i64 (hd ks)] (by rfl) (by rfl) (cells_new _ _ _) (by intro u hu;simp at hu;subst hu;rfl) (by omega) (by simp only [maxLen];omega) (by omega) (by simp;omega) (w5.heap.size+1) (by simp) ?_;intro gg cap w6 hown6 hg6 hat6 hgl6;have z4:=((HR5.out.ps.blk.alloc (.cells #[.int .i64 (hd ks)] 3)).grown hg6 (fun e=>own_blk_ne HR5.out.row HR5.out.ps.blk (by decide) e.symm)).cell 4;have z6:=(HR5.out.ps.blk.alloc (.cells #[.int .i64 (hd ks)] 3)).grown hg6 (fun e=>own_blk_ne HR5.out.row HR5.out.ps.blk (by decide) e.symm);have z5:=z6.frozen 4;clear z6;have z0:=blk_grown HD0.out HR5.out.row hg6 (by decide);have y0:=z0.cell 0;have y1:=z0.cell 1;have y2:=z0.cell 2;clear z0)
        | (go_simp;(first | go_at_call 182 | go_at_call 183 | go_at_call 184 | go_at_call 185 | go_at_call 186 | go_at_call 187 | go_at_call 188);refine (item_all hF _ n _ k' xs' nv' _ HR4.out.ps.drew (by omega) hn' HW.out HX.out).mono ?_;rintro e w5 ⟨rfl,ext5,nv5,ha5⟩;have HA5:=hid ha5;have HR5:=hid (HR4.out.drew.at_ ha5);have c4:=HR5.out.ps.blk.cell 4;have f4:=HR5.out.ps.blk.frozen 4;have d0:=ha5.blk HR4.out.ps.drew HN4.out.drew (by decide) (by decide);have dc0:=d0.cell 0;have dc1:=d0.cell 1;have dc2:=d0.cell 2;have HD0:=hid d0;clear d0;have hz5:=HR5.out.ps.lt;clear ha5)))
      all_goals
       have HMO:=hid (HR4.out.more (a:=hd ks) HA5.out hg6 hat6 hown6 HM4.out)
       have HR6:=hid HMO.out.1
       have HB6:=hid (HB4.out.trans HMO.out.2.1)
       have HM6:=hid HMO.out.2.2
       clear HMO hown6 hg6 hat6 hgl6
       have hl5:=HA5.out.len
       have HNS:=hid HA5.out.ns
       clear HA5
       rcases need_split HG4.out with ⟨he7,hr7⟩ | ⟨he7,rfl⟩
       rotate_left
       ·have HE7:=hid he7;clear he7
        go_wp2_with fail
        refine (need_no g _ l en _ hF [59] (.inr (by decide +kernel)) _ k1 _ _ HR6.out.ps go2 HE7.out).mono ?_
        rintro e w7 ⟨rfl,hb7⟩
        unfold wrongAt
        go_wp2_with fail
        exact⟨rfl,PPost.bad rfl (HB6.out.trans (hb7.mono (Nat.le_of_lt HR6.out.ps.lt)))⟩
       have hlt7:=tx_lt he7 (by simp)
       have HE7:=hid he7;clear he7
       have HR7:=hid hr7;clear hr7
       go_wp2_with fail
       refine (need_yes g _ l en _ hF [59] (.inr (by decide +kernel)) _ k1 _ _ HR6.out.ps go2 HE7.out).mono ?_
       rintro e w7 ⟨rfl,p7,m7⟩
       have HRZ:=hid (HR6.out.step p7 m7)
       have HMZ:=hid ((m7.block _ (Array.getElem?_eq_some_iff.1 HM6.out).1 (HR6.out.ps.map_ne HM6.out).1 (HR6.out.ps.map_ne HM6.out).2).trans HM6.out)
       have HBZ:=hid (HB6.out.trans (HR6.out.ps.low m7))
       clear p7 m7
       go_wp2_with fail
       refine⟨⟨f',k1+1,q'+1,xs' ++ ext5,nv5,_,its' ++ [hd ks],by omega,by rw [hl5];omega,by omega,HRZ,HMZ,hid (by rw [HNS.out];exact GO.out.wf),hid (by rw [HNS.out];exact HR7.out),HBZ⟩,?_⟩
       rw [HMS.out,HRZ.out.ps.toGo];omega
end
end Go.Proofs.YthepmkjggfijoaaGreatDoor
namespace Go.Proofs.YthepmkjggfijoaaGreatDoor
open Go.RowKit Mist
theorem catch_idle (a b c:Value) (w:World) :
  CallsD Tryz.prog 92 #[a,b,c] .returning w fun e u' w'=>e=.returned (.tuple #[])∧u'=.returning∧w'=w:=by
 refine callsD_of_wpS Tryz.func92 rfl fun c₀ cs hu=>?_
 apply wpS_seq
 apply wpS_region
 simp [wpOpsS,go_sem,recoverD,hu,Tryz.ntmps92,Exit.thenS]
 refine wpS_of_wp ?_
 go_wp2
 cases c₀
 simp_all [bodyPostS,results,Tryz.f92]
theorem caught (w:World) (bt ba be:Nat) (x y z u:Value) (at_:Int) (ht:Blk w bt 26 #[x,y]) (ha:Blk w ba 3 #[z]) (he:Blk w be 27 #[u]) (h1:bt < ba) (h2:ba < be) :
  Blk ((((w.setCell ⟨bt,0,none⟩ (.slice none 0 0)).setCell ⟨bt,1,none⟩ (.slice none 0 0)).setCell ⟨ba,0,none⟩ (.int .i64 at_)).setCell ⟨be,0,none⟩ (.int .i64 4)) bt 26 #[.slice none 0 0,.slice none 0 0] ∧
  Blk ((((w.setCell ⟨bt,0,none⟩ (.slice none 0 0)).setCell ⟨bt,1,none⟩ (.slice none 0 0)).setCell ⟨ba,0,none⟩ (.int .i64 at_)).setCell ⟨be,0,none⟩ (.int .i64 4)) ba 3 #[.int .i64 at_] ∧
  Blk ((((w.setCell ⟨bt,0,none⟩ (.slice none 0 0)).setCell ⟨bt,1,none⟩ (.slice none 0 0)).setCell ⟨ba,0,none⟩ (.int .i64 at_)).setCell ⟨be,0,none⟩ (.int .i64 4)) be 27 #[.int .i64 4] ∧
  Below bt w ((((w.setCell ⟨bt,0,none⟩ (.slice none 0 0)).setCell ⟨bt,1,none⟩ (.slice none 0 0)).setCell ⟨ba,0,none⟩ (.int .i64 at_)).setCell ⟨be,0,none⟩ (.int .i64 4)):=by
 have t1:=(ht.set_ 0 (.slice none 0 0)).set_ 1 (.slice none 0 0)
 have t2:=(t1.far (p:=⟨ba,0,none⟩) (by simp;omega) (.int .i64 at_)).far (p:=⟨be,0,none⟩) (by simp;omega) (.int .i64 4)
 have a1:=(ha.far (p:=⟨bt,0,none⟩) (by simp;omega) (.slice none 0 0)).far (p:=⟨bt,1,none⟩) (by simp;omega) (.slice none 0 0)
 have a2:=(a1.set_ 0 (.int .i64 at_)).far (p:=⟨be,0,none⟩) (by simp;omega) (.int .i64 4)
 have e1:=(he.far (p:=⟨bt,0,none⟩) (by simp;omega) (.slice none 0 0)).far (p:=⟨bt,1,none⟩) (by simp;omega) (.slice none 0 0)
 have e2:=(e1.far (p:=⟨ba,0,none⟩) (by simp;omega) (.int .i64 at_)).set_ 0 (.int .i64 4)
 exact⟨by simpa using t2,by simpa using a2,by simpa using e2,bset (bset (bset (bset (Below.refl _ _) (Nat.le_refl _)) (Nat.le_refl _)) (by omega)) (by omega)⟩
theorem wrong_is (at_:Int) (w:World):(Instr.typeAssert (.iface 109 (.agg #[.int .i64 at_])) 20 109 true).run Tryz.prog w=.ok (.tuple #[.agg #[.int .i64 at_],.bool true]) w:=by kernel_rfl
theorem catch_wrong (bt ba be:Nat) (x y z u:Value) (at_:Int) (older:List PanicEntry) (w:World) (ht:Blk w bt 26 #[x,y]) (ha:Blk w ba 3 #[z]) (he:Blk w be 27 #[u]) (h1:bt < ba) (h2:ba < be) :
  CallsD Tryz.prog 92 #[.pointer (some ⟨bt,0,none⟩),.pointer (some ⟨ba,0,none⟩),.pointer (some ⟨be,0,none⟩)] (.panicking ({ v:=.iface 109 (.agg #[.int .i64 at_]),recovered:=false } :: older)) w fun e u' w' =>
   e=.returned (.tuple #[])∧u'=.panicking ({ v:=.iface 109 (.agg #[.int .i64 at_]),recovered:=true } :: older)∧Blk w' bt 26 #[.slice none 0 0,.slice none 0 0]∧Blk w' ba 3 #[.int .i64 at_]∧Blk w' be 27 #[.int .i64 4]∧Below bt w w':=by
 have hta:=wrong_is at_
 have t0:=ht.cell 0
 have t1:=ht.cell 1
 have a0:=ha.cell 0
 have e0:=he.cell 0
 have ft0:=ht.frozen 0
 have ft1:=ht.frozen 1
 have fa0:=ha.frozen 0
 have fe0:=he.frozen 0
 refine callsD_of_wpS Tryz.func92 rfl fun c₀ cs hu=>?_
 apply wpS_seq
 apply wpS_region
 simp [wpOpsS,go_sem,recoverD,hu,Tryz.ntmps92,Exit.thenS]
 refine wpS_of_wp ?_
 have hl:=he.lt
 have hl2:=ht.lt
 have hl3:=ha.lt
 go_wp2
 go_region
 all_goals
  go_wp2
  have hc:=caught w bt ba be x y z u at_ ht ha he h1 h2
  refine⟨rfl,_,rfl,.tuple #[],by simp [results,Tryz.f92,go_sem],rfl,rfl,?_,?_,?_,?_⟩
  ·exact (hc.1.alloc _).drew
  ·exact (hc.2.1.alloc _).drew
  ·exact (hc.2.2.1.alloc _).drew
  ·exact Below.drew (balloc hc.2.2.2 (Nat.le_of_lt hc.1.lt))
end Go.Proofs.YthepmkjggfijoaaGreatDoor
