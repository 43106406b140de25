/-
  PARTS of the proof: TP2, TP3, TM, TP4, TP5.
-/
import Derived.Deep.RegionLaw
import Derived.Deep.AppendLies
import Derived.MapKept
import Derived.Deep.RegionHeld3
import Derived.RegionCalls
import Derived.Test.YthepmkjggfijoaaGreatDoorB07
set_option linter.all false
set_option maxRecDepth 100000
set_option maxHeartbeats 2000000
open Go.Lib (hid)
namespace Go.Proofs.YthepmkjggfijoaaGreatDoor
open Go.RowKit Mist
attribute [local go_sem] ofL_extract ofL_size ofL_get ofL_bytes ofL_append
theorem heap_new2 (w:World) (a b:Obj):((w.alloc a).alloc b).heap[w.heap.size+1]? = some b:=by
 have h:=heap_alloc_new (w.alloc a) b;rw [World.size_alloc] at h;exact h
def wrongAt (l:List Tok) (en:Int) (k:Nat):Ending:=.panicked [{ v:=.iface 109 (.agg #[.int .i64 (pl l en k)]),recovered:=false }]
structure PF (l:List Tok):Prop where
 len:l.length≤1000
 kind:∀ t ∈ l,Mist.kind t.text=t.kind
 text:∀ t ∈ l,t.text.length≤2000
theorem PF.tx {l:List Tok} (h:PF l) (k:Nat):(tx l k).length≤2000:=by
 rcases Nat.lt_or_ge k l.length with h1 | h1
 ·exact h.text _ (tg_mem l k h1)
 ·unfold Mist.tx;rw [tg_past l k h1];simp
section
variable (g:Nat) (tv:Value) (l:List Tok) (en:Int) (iv:Value) (hF:PF l)
include hF
theorem need_yes (x:Bs) (hx:Mist.kind x=3∨Mist.kind x=4) (w:World) (k:Nat) (xs:List NV) (nv:Value) (h:PS g tv l en iv w k xs nv) (hk:k≤l.length) (he:tx l k=x) :
  Calls Tryz.prog 139 #[.pointer (some ⟨g,0,none⟩),.string (ofL x)] w fun e w'=>e=.returned (TokAt l en k)∧PS g tv l en iv w' (k+1) xs nv∧Mv g nv.ownBlock w nv.ownBlock w':=by
 have H:=hid h;clear h
 have HE:=hid (show decide (tx l k=x)=true by simp [he]);clear he
 have FF:=hid (H.out.new (Nat.le_refl _))
 have bR:=Blk.new w 68 #[.int .u8 0,.string ⟨#[]⟩,.int .i64 0]
 go_enter Tryz.func139,Tryz.ntmps139
 go_wp2_with fail
 refine (is_any x hx g tv l en iv _ k xs nv ((H.out.alloc _).alloc _) hk hF.len hF.kind (w.heap.size+1) _ 9 (0,0) (heap_new2 _ _ _) true HE.out).mono ?_
 rintro e w1 ⟨rfl,hb⟩
 have bR1:=(bR.alloc (.cells #[.string (ofL x)] 9)).below hb (by simp;omega)
 have HM:=hid ((((Mv.refl (g:=g) (r0:=nv.ownBlock) (w:=w)).falloc (o:=.cells #[.int .u8 0,.string ⟨#[]⟩,.int .i64 0] 68)).falloc (o:=.cells #[.string (ofL x)] 9)).fbelow hb)
 have H1:=hid (((H.out.alloc (.cells #[.int .u8 0,.string ⟨#[]⟩,.int .i64 0] 68)).alloc (.cells #[.string (ofL x)] 9)).below hb)
 clear hb bR
 go_wp2_with fail
 refine (take_any g tv l en iv _ k xs nv H1.out hk hF.len).mono ?_
 rintro e w2 ⟨rfl,h2,m2⟩
 have bR2:=m2.blk bR1 (Nat.ne_of_gt FF.out.lt) (Ne.symm FF.out.row)
 have HM2:=hid (HM.out.trans m2)
 have H2:=hid h2
 clear m2 h2 bR1
 have hlw:=bR2.lt
 have r0:=bR2.cell 0
 have r1:=bR2.cell 1
 have r2:=bR2.cell 2
 have z0:=bR2.frozen 0
 have z1:=bR2.frozen 1
 have z2:=bR2.frozen 2
 clear bR2
 go_wp2_with fail
 refine bodyPost_ret (v:=TokAt l en k) (by simp [results,go_sem,TokAt,r0,r1,r2]) rfl ?_
 exact⟨rfl,by (repeat (first | exact H2.out | refine PS.far ?_ FF.out _ _)),by (repeat (first | exact HM2.out | refine Mv.fset ?_ (Nat.le_refl _)))⟩
theorem need_no (x:Bs) (hx:Mist.kind x=3∨Mist.kind x=4) (w:World) (k:Nat) (xs:List NV) (nv:Value) (h:PS g tv l en iv w k xs nv) (hk:k≤l.length) (he:¬ tx l k=x) :
  Calls Tryz.prog 139 #[.pointer (some ⟨g,0,none⟩),.string (ofL x)] w fun e w'=>e=wrongAt l en k∧Below w.heap.size w w':=by
 have H:=hid h;clear h
 have HE:=hid (show decide (tx l k=x)=false by simp [he]);clear he
 go_enter Tryz.func139,Tryz.ntmps139
 go_wp2_with fail
 refine (is_any x hx g tv l en iv _ k xs nv ((H.out.alloc _).alloc _) hk hF.len hF.kind (w.heap.size+1) _ 9 (0,0) (heap_new2 _ _ _) false HE.out).mono ?_
 rintro e w1 ⟨rfl,hb⟩
 have H1:=hid (((H.out.alloc (.cells #[.int .u8 0,.string ⟨#[]⟩,.int .i64 0] 68)).alloc (.cells #[.string (ofL x)] 9)).below hb)
 have HB:=hid ((balloc (o:=.cells #[.string (ofL x)] 9) (balloc (o:=.cells #[.int .u8 0,.string ⟨#[]⟩,.int .i64 0] 68) (Below.refl w.heap.size w) (Nat.le_refl _)) (by simp)).trans (hb.mono (by simp;omega)))
 clear hb
 go_wp2_with fail
 refine (fail_any g tv l en iv _ k xs nv H1.out hk hF.len).mono ?_
 rintro e w2 ⟨rfl,hb⟩
 go_wp2_with fail
 exact⟨rfl,rfl,HB.out.trans (hb.mono HB.out.size)⟩
theorem has_yes (x:Bs) (hx:Mist.kind x=3∨Mist.kind x=4) (w:World) (k:Nat) (xs:List NV) (nv:Value) (h:PS g tv l en iv w k xs nv) (hk:k≤l.length) (he:tx l k=x) :
  Calls Tryz.prog 208 #[.pointer (some ⟨g,0,none⟩),.string (ofL x)] w fun e w'=>e=.returned (.bool true)∧PS g tv l en iv w' (k+1) xs nv∧Mv g nv.ownBlock w nv.ownBlock w':=by
 have H:=hid h;clear h
 have HE:=hid (show decide (tx l k=x)=true by simp [he]);clear he
 go_enter Tryz.func208,Tryz.ntmps208
 go_wp2_with fail
 refine (is_any x hx g tv l en iv _ k xs nv (H.out.alloc _) hk hF.len hF.kind w.heap.size _ 9 (0,0) (heap_alloc_new _ _) true HE.out).mono ?_
 rintro e w1 ⟨rfl,hb⟩
 have HM:=hid (((Mv.refl (g:=g) (r0:=nv.ownBlock) (w:=w)).falloc (o:=.cells #[.string (ofL x)] 9)).fbelow hb)
 have H1:=hid ((H.out.alloc (.cells #[.string (ofL x)] 9)).below hb)
 clear hb
 go_wp2_with fail
 refine (take_any g tv l en iv _ k xs nv H1.out hk hF.len).mono ?_
 rintro e w2 ⟨rfl,h2,m2⟩
 have HM2:=hid (HM.out.trans m2)
 have H2:=hid h2
 clear m2 h2
 go_wp2_with fail
 go_ret
 exact⟨rfl,H2.out,HM2.out⟩
theorem has_no (x:Bs) (hx:Mist.kind x=3∨Mist.kind x=4) (w:World) (k:Nat) (xs:List NV) (nv:Value) (h:PS g tv l en iv w k xs nv) (hk:k≤l.length) (he:¬ tx l k=x) :
  Calls Tryz.prog 208 #[.pointer (some ⟨g,0,none⟩),.string (ofL x)] w fun e w'=>e=.returned (.bool false)∧Below w.heap.size w w':=by
 have H:=hid h;clear h
 have HE:=hid (show decide (tx l k=x)=false by simp [he]);clear he
 go_enter Tryz.func208,Tryz.ntmps208
 go_wp2_with fail
 refine (is_any x hx g tv l en iv _ k xs nv (H.out.alloc _) hk hF.len hF.kind w.heap.size _ 9 (0,0) (heap_alloc_new _ _) false HE.out).mono ?_
 rintro e w1 ⟨rfl,hb⟩
 have HB:=hid ((balloc (o:=.cells #[.string (ofL x)] 9) (Below.refl w.heap.size w) (Nat.le_refl _)).trans (hb.mono (by simp)))
 clear hb
 go_wp2_with fail
 go_ret
 exact⟨rfl,HB.out⟩
theorem kind_yes (c:Nat) (w:World) (k:Nat) (xs:List NV) (nv:Value) (h:PS g tv l en iv w k xs nv) (hk:k≤l.length) (he:(tg l k).kind=c) :
  Calls Tryz.prog 220 #[.pointer (some ⟨g,0,none⟩),.int .u8 c] w fun e w'=>e=.returned (TokAt l en k)∧PS g tv l en iv w' (k+1) xs nv∧Mv g nv.ownBlock w nv.ownBlock w':=by
 have H:=hid h;clear h
 have he':(((tg l k).kind:Int) != (c:Int))=false:=by rw [he];simp
 clear he
 have FF:=hid (H.out.new (Nat.le_refl _))
 have bR:=Blk.new w 68 #[.int .u8 0,.string ⟨#[]⟩,.int .i64 0]
 have f0:=tok_field0
 go_enter Tryz.func220,Tryz.ntmps220
 go_wp2_with fail
 refine (look_any g tv l en iv _ k xs nv (H.out.alloc _) hk hF.len).mono ?_
 rintro e w1 ⟨rfl,hb⟩
 have bR1:=bR.below hb (by simp)
 have HM:=hid (((Mv.refl (g:=g) (r0:=nv.ownBlock) (w:=w)).falloc (o:=.cells #[.int .u8 0,.string ⟨#[]⟩,.int .i64 0] 68)).fbelow hb)
 have H1:=hid ((H.out.alloc (.cells #[.int .u8 0,.string ⟨#[]⟩,.int .i64 0] 68)).below hb)
 clear hb bR
 go_wp2_with fail
 refine (take_any g tv l en iv _ k xs nv H1.out hk hF.len).mono ?_
 rintro e w2 ⟨rfl,h2,m2⟩
 have bR2:=m2.blk bR1 (Nat.ne_of_gt FF.out.lt) (Ne.symm FF.out.row)
 have HM2:=hid (HM.out.trans m2)
 have H2:=hid h2
 clear m2 h2 bR1
 have hlw:=bR2.lt
 have r0:=bR2.cell 0
 have r1:=bR2.cell 1
 have r2:=bR2.cell 2
 have z0:=bR2.frozen 0
 have z1:=bR2.frozen 1
 have z2:=bR2.frozen 2
 clear bR2
 go_wp2_with fail
 refine bodyPost_ret (v:=TokAt l en k) (by simp [results,go_sem,TokAt,r0,r1,r2]) rfl ?_
 exact⟨rfl,by (repeat (first | exact H2.out | refine PS.far ?_ FF.out _ _)),by (repeat (first | exact HM2.out | refine Mv.fset ?_ (Nat.le_refl _)))⟩
theorem kind_no (c:Nat) (w:World) (k:Nat) (xs:List NV) (nv:Value) (h:PS g tv l en iv w k xs nv) (hk:k≤l.length) (he:¬ (tg l k).kind=c) :
  Calls Tryz.prog 220 #[.pointer (some ⟨g,0,none⟩),.int .u8 c] w fun e w'=>e=wrongAt l en k∧Below w.heap.size w w':=by
 have H:=hid h;clear h
 have he':(((tg l k).kind:Int) != (c:Int))=true:=by simp;omega
 clear he
 have f0:=tok_field0
 go_enter Tryz.func220,Tryz.ntmps220
 go_wp2_with fail
 refine (look_any g tv l en iv _ k xs nv (H.out.alloc _) hk hF.len).mono ?_
 rintro e w1 ⟨rfl,hb⟩
 have HB:=hid ((balloc (o:=.cells #[.int .u8 0,.string ⟨#[]⟩,.int .i64 0] 68) (Below.refl w.heap.size w) (Nat.le_refl _)).trans (hb.mono (by simp)))
 have H1:=hid ((H.out.alloc (.cells #[.int .u8 0,.string ⟨#[]⟩,.int .i64 0] 68)).below hb)
 clear hb
 go_wp2_with fail
 refine (fail_any g tv l en iv _ k xs nv H1.out hk hF.len).mono ?_
 rintro e w2 ⟨rfl,hb⟩
 go_wp2_with fail
 exact⟨rfl,rfl,HB.out.trans (hb.mono HB.out.size)⟩
theorem name_yes (w:World) (k:Nat) (xs:List NV) (nv:Value) (h:PS g tv l en iv w k xs nv) (hk:k≤l.length) (he:(tg l k).kind=1) :
  Calls Tryz.prog 202 #[.pointer (some ⟨g,0,none⟩)] w fun e w'=>e=.returned (TokAt l en k)∧PS g tv l en iv w' (k+1) xs nv∧Mv g nv.ownBlock w nv.ownBlock w':=by
 have H:=hid h;clear h
 have HE:=hid he;clear he
 have FF:=hid (H.out.new (Nat.le_refl _))
 have bR:=Blk.new w 68 #[.int .u8 0,.string ⟨#[]⟩,.int .i64 0]
 go_enter Tryz.func202,Tryz.ntmps202
 go_wp2_with fail
 refine (kind_yes g tv l en iv hF 1 _ k xs nv (H.out.alloc _) hk HE.out).mono ?_
 rintro e w2 ⟨rfl,h2,m2⟩
 have bR2:=m2.blk bR (Nat.ne_of_gt FF.out.lt) (Ne.symm FF.out.row)
 have HM2:=hid (((Mv.refl (g:=g) (r0:=nv.ownBlock) (w:=w)).falloc (o:=.cells #[.int .u8 0,.string ⟨#[]⟩,.int .i64 0] 68)).trans m2)
 have H2:=hid h2
 clear m2 h2 bR
 have hlw:=bR2.lt
 have r0:=bR2.cell 0
 have r1:=bR2.cell 1
 have r2:=bR2.cell 2
 have z0:=bR2.frozen 0
 have z1:=bR2.frozen 1
 have z2:=bR2.frozen 2
 clear bR2
 unfold TokAt
 go_wp2_with fail
 refine bodyPost_ret (v:=TokAt l en k) (by simp [results,go_sem,TokAt,r0,r1,r2]) rfl ?_
 exact⟨rfl,by (repeat (first | exact H2.out | refine PS.far ?_ FF.out _ _)),by (repeat (first | exact HM2.out | refine Mv.fset ?_ (Nat.le_refl _)))⟩
theorem name_no (w:World) (k:Nat) (xs:List NV) (nv:Value) (h:PS g tv l en iv w k xs nv) (hk:k≤l.length) (he:¬ (tg l k).kind=1) :
  Calls Tryz.prog 202 #[.pointer (some ⟨g,0,none⟩)] w fun e w'=>e=wrongAt l en k∧Below w.heap.size w w':=by
 have H:=hid h;clear h
 have HE:=hid he;clear he
 go_enter Tryz.func202,Tryz.ntmps202
 go_wp2_with fail
 refine (kind_no g tv l en iv hF 1 _ k xs nv (H.out.alloc _) hk HE.out).mono ?_
 rintro e w2 ⟨rfl,hb⟩
 unfold wrongAt
 go_wp2_with fail
 exact⟨rfl,rfl,(balloc (o:=.cells #[.int .u8 0,.string ⟨#[]⟩,.int .i64 0] 68) (Below.refl w.heap.size w) (Nat.le_refl _)).trans (hb.mono (by simp))⟩
end
end Go.Proofs.YthepmkjggfijoaaGreatDoor
namespace Go.Proofs.YthepmkjggfijoaaGreatDoor
open Go.RowKit Mist
attribute [local go_sem] ofL_extract ofL_size ofL_get ofL_bytes ofL_append
section
variable (g:Nat) (tv:Value) (l:List Tok) (en:Int) (iv:Value)
theorem add_any (K:Nat) (oa ob:Value) (p:Int) (x:Bs) (N:Int) (kv:Value) (kids:List Int) (w:World) (k:Nat) (xs:List NV) (nv:Value) (h:PS g tv l en iv w k xs nv) (hkid:KidRow w kv kids) (hn:xs.length≤1000000) :
  Calls Tryz.prog 204 #[.pointer (some ⟨g,0,none⟩),.int .u8 K,.agg #[oa,ob,.int .i64 p],.string (ofL x),.int .i64 N,kv] w fun e w'=>e=.returned (.int .i64 (xs.length:Nat))∧∃ nv',PS g tv l en iv w' k (xs ++ [(⟨K,x,N,kids,p⟩,kv)]) nv'∧Mv g nv.ownBlock w nv'.ownBlock w':=by
 obtain⟨A,c,rfl⟩:=own_form hkid
 obtain⟨i0,hi0,hz0,hz1,hz2⟩:=info_parts node_info
 have H:=hid h;clear h
 have HK:=hid hkid;clear hkid
 have hlt:=H.out.lt
 have c3:=H.out.blk.cell 3
 have f3:=H.out.blk.frozen 3
 obtain⟨kn,hkn⟩:∃ kn,kn=kids.length:=⟨_,rfl⟩
 rw [← hkn]
 have HKN:=hid hkn;clear hkn
 have hne:¬ w.heap.size=g:=by omega
 go_enter Tryz.func204,Tryz.ntmps204
 go_wp2_with fail
 go_region_law ((refine step_append_lies _ (by rfl) _ _ _ (by rfl) g 50 i0 _ 5 64 Tryz.underlying23 hi0 hz0 hz1 hz2 rfl (by omega) _ xs.length (ndRow xs) (by rfl) (((H.out.own.alloc _).alloc _).drew)
                  ⟨w.heap.size+1,0,none⟩ 1 1 (ndCells (⟨K,x,N,kids,p⟩,.slice A kn c)) (by rfl) (by rfl) (World.news_of_block (cs:=#[.int .u8 K,.string (ofL x),.int .i64 N,.slice A kn c,.int .i64 p]) (t:=50) (fr:=(0,0)) (heap_new2 w _ _)) (by intro u hu;simp [ndCells] at hu;rcases hu with rfl | rfl | rfl | rfl | rfl <;> rfl)
                  (by omega) (by simp only [maxLen];omega) (by omega) (by simp;omega) (w.heap.size+2) (by simp) ?_;intro gg cap w1 hown1 hgrow hat hlt';have kk:=((H.out.alloc (.cells #[oa,ob,.int .i64 p] 68)).alloc (.cells #[.int .u8 K,.string (ofL x),.int .i64 N,.slice A kn c,.int .i64 p] 50)).drew.blk.grown hgrow (fun e=>own_blk_ne H.out.own H.out.blk (by decide) e.symm);have c3':=kk.cell 3;have f3':=kk.frozen 3;clear kk))
 all_goals
  have HGR:=hid hgrow;clear hgrow
  have HOW:=hid hown1;clear hown1
  have HAT:=hid hat;clear hat
  go_wp2
  go_ret
  refine⟨by (first | rfl | (congr 2;omega)),_,PS.add ((H.out.alloc (.cells #[oa,ob,.int .i64 p] 68)).alloc (.cells #[.int .u8 K,.string (ofL x),.int .i64 N,.slice A kn c,.int .i64 p] 50)).drew HGR.out HOW.out (HKN.out ▸ own_below HK.out (Below.drew (balloc (balloc (Below.refl _ _) (Nat.le_refl _)) (by simp)))),?_⟩
  refine Mv.gset ?_
  refine Mv.trans (r1:=nv.ownBlock) (Mv.falloc (Mv.falloc Mv.refl)).fdrew1 (Mv.grown HGR.out ?_)
  rcases HAT.out with e | e
  ·left;rw [e];rfl
  ·right;rw [e];simp [Value.ownBlock]
theorem number_yes (hF:PF l) (w:World) (k:Nat) (xs:List NV) (nv:Value) (h:PS g tv l en iv w k xs nv) (hk:k≤l.length) (he:(tg l k).kind=2) :
  Calls Tryz.prog 209 #[.pointer (some ⟨g,0,none⟩)] w fun e w'=>e=.returned (.tuple #[TokAt l en k,.int .i64 (numOf (tx l k):Nat)])∧PS g tv l en iv w' (k+1) xs nv∧Mv g nv.ownBlock w nv.ownBlock w':=by
 have H:=hid h;clear h
 have HN:=hid (numberOf_yes (tx l k) (by unfold tx;rw [hF.kind _ (tg_mem l k (kd_lt he (by simp))),he]))
 have HE:=hid he;clear he
 have FF:=hid (H.out.new (Nat.le_refl _))
 have bR:=Blk.new w 68 #[.int .u8 0,.string ⟨#[]⟩,.int .i64 0]
 go_enter Tryz.func209,Tryz.ntmps209
 go_wp2_with fail
 refine (kind_yes g tv l en iv hF 2 _ k xs nv (H.out.alloc _) hk HE.out).mono ?_
 rintro e w2 ⟨rfl,h2,m2⟩
 have bR2:=m2.blk bR (Nat.ne_of_gt FF.out.lt) (Ne.symm FF.out.row)
 have HM2:=hid (((Mv.refl (g:=g) (r0:=nv.ownBlock) (w:=w)).falloc (o:=.cells #[.int .u8 0,.string ⟨#[]⟩,.int .i64 0] 68)).trans m2)
 have H2:=hid h2
 have bT:=Blk.new w2 68 #[.int .u8 (tg l k).kind,.string (ofL (tx l k)),.int .i64 (pl l en k)]
 have bR3:=bR2.alloc (.cells #[.int .u8 (tg l k).kind,.string (ofL (tx l k)),.int .i64 (pl l en k)] 68)
 have hl0:=bR2.lt
 clear m2 h2 bR bR2
 unfold TokAt
 go_wp2_with fail
 refine (number_any (tx l k) _ ((H2.out.alloc (.cells #[.int .u8 (tg l k).kind,.string (ofL (tx l k)),.int .i64 (pl l en k)] 68)).envw) (by have:=hF.tx k;omega)).mono ?_
 rintro e w3 ⟨rfl,hb3⟩
 rw [HN.out]
 have bR4:=bR3.below hb3 bR3.lt
 have bT4:=bT.below hb3 bT.lt
 have H3:=hid ((H2.out.alloc (.cells #[.int .u8 (tg l k).kind,.string (ofL (tx l k)),.int .i64 (pl l en k)] 68)).below hb3)
 have HM3:=hid ((HM2.out.falloc (o:=.cells #[.int .u8 (tg l k).kind,.string (ofL (tx l k)),.int .i64 (pl l en k)] 68)).fbelow hb3)
 have hlw:=bR3.lt
 have hne:¬ w2.heap.size=w.heap.size:=by omega
 clear hb3 bR3 bT
 have r0:=bR4.cell 0
 have r1:=bR4.cell 1
 have r2:=bR4.cell 2
 have z0:=bR4.frozen 0
 have z1:=bR4.frozen 1
 have z2:=bR4.frozen 2
 have t0:=bT4.cell 0
 have t1:=bT4.cell 1
 have t2:=bT4.cell 2
 clear bR4 bT4
 go_wp2_with fail
 refine bodyPost_ret (v:=.tuple #[TokAt l en k,.int .i64 (numOf (tx l k):Nat)]) (by simp [results,go_sem,TokAt,r0,r1,r2]) rfl ?_
 exact⟨rfl,by (repeat (first | exact H3.out | refine PS.far ?_ FF.out _ _)),by (repeat (first | exact HM3.out | refine Mv.fset ?_ (Nat.le_refl _)))⟩
theorem number_no (hF:PF l) (w:World) (k:Nat) (xs:List NV) (nv:Value) (h:PS g tv l en iv w k xs nv) (hk:k≤l.length) (he:¬ (tg l k).kind=2) :
  Calls Tryz.prog 209 #[.pointer (some ⟨g,0,none⟩)] w fun e w'=>e=wrongAt l en k∧Below w.heap.size w w':=by
 have H:=hid h;clear h
 have HE:=hid he;clear he
 go_enter Tryz.func209,Tryz.ntmps209
 go_wp2_with fail
 refine (kind_no g tv l en iv hF 2 _ k xs nv (H.out.alloc _) hk HE.out).mono ?_
 rintro e w2 ⟨rfl,hb⟩
 unfold wrongAt
 go_wp2_with fail
 exact⟨rfl,rfl,(balloc (o:=.cells #[.int .u8 0,.string ⟨#[]⟩,.int .i64 0] 68) (Below.refl w.heap.size w) (Nat.le_refl _)).trans (hb.mono (by simp))⟩
end
end Go.Proofs.YthepmkjggfijoaaGreatDoor
namespace Go.Proofs.YthepmkjggfijoaaGreatDoor
open Go.RowKit Mist
attribute [local go_sem] ofL_extract ofL_size ofL_get ofL_bytes ofL_append
def sEs:List (Bs × Value)→Nat→List MapEntry
 | [],_=>[]
 | (k,v) :: r,i=>⟨.string (ofL k),v,i⟩ :: sEs r (i+1)
def sFind (x:Bs):List (Bs × Value)→Option Value
 | []=>none
 | (k,v) :: r=>if x=k then some v else sFind x r
theorem ofL_beq (x:Bs) (y:Bs):(ofL x == ofL y)=decide (x=y):=by
 rw [Bool.eq_iff_iff]
 constructor
 ·intro h
  have:=ofL_bytes x
  rw [beq_toListBytes] at h
  rw [ofL_bytes,ofL_bytes] at h
  simpa using h
 ·intro h
  have h:x=y:=by simpa using h
  rw [h,beq_toListBytes]
  simp
theorem findNow_s (x:Bs):∀ (l:List (Bs × Value)) (i j:Nat),∃ n,Instr.findNow .string (.string (ofL x)) (sEs l j) i=some ((sFind x l).map fun v=>(n,v))
 | [],i,j=>⟨0,rfl⟩
 | (k,v) :: r,i,j=>by
  simp only [sEs,sFind,Instr.findNow,Instr.sameNow,ofL_beq]
  by_cases h:x=k
  ·exact⟨i,by simp [h]⟩
  ·obtain⟨n,hn⟩:=findNow_s x r (i+1) (j+1)
   exact⟨n,by simp [h,hn]⟩
theorem run_checkStr (b:Bool) (s:ByteArray) (w:World):(Instr.checkKey b 10000 9 (.string s)).run Tryz.prog w=.ok () w :=
 MapKept.run_checkKey Tryz.underlying9 (by trivial) b 9999
theorem lookup_s (T E:TypeId) (z:Value) (hT:Tryz.prog.underlying T=some (.map 9 E)) (w:World) (hz:(zeroValue E).run Tryz.prog w=.ok z w) (l:List (Bs × Value)) (m c:Nat) (hm:w.heap[m]? = some (.map (sEs l 0).toArray c)) (x:Bs) (ok:Bool) :
  (Instr.lookup T (.map (some m)) (.string (ofL x)) ok).run Tryz.prog w=.ok (if ok then .tuple #[(sFind x l).getD z,.bool (sFind x l).isSome] else (sFind x l).getD z) w:=by
 have hg:(getObj m).run Tryz.prog w=.ok (.map (sEs l 0).toArray c) w:=MapKept.run_getObj_map hm
 obtain⟨n,hn⟩:=findNow_s x l 0 0
 have hf:(Instr.findKey 9 (.string (ofL x)) (sEs l 0)).run Tryz.prog w=.ok ((sFind x l).map fun v=>(n,v)) w:=by
  simp only [Instr.findKey,Sem.run_bind,run_underlying Tryz.underlying9,Result.andThen_ok,hn]
  rfl
 unfold Instr.lookup
 simp only [Sem.run_bind,run_underlying hT,Result.andThen_ok,hg,run_checkStr,hf,Sem.run_pure]
 cases sFind x l with
 | none =>
  simp only [Option.map_none,Sem.run_bind,hz,Result.andThen_ok,Sem.run_pure]
  cases ok <;> rfl
 | some v =>
  simp only [Option.map_some,Sem.run_pure,Result.andThen_ok]
  cases ok <;> rfl
theorem heap_put (w:World) (o o':Obj):(w.alloc o).heap.setIfInBounds w.heap.size o'=(w.alloc o').heap:=by
 show (w.heap.push o).setIfInBounds w.heap.size o'=w.heap.push o'
 ext i h1 h2
 ·simp
 ·rw [Array.getElem_setIfInBounds]
  ·rw [Array.getElem_push,Array.getElem_push]
   split
   ·rename_i h;subst h;simp
   ·split <;> first | rfl | (simp at h2;omega)
  ·simpa using h1
theorem sEs_snoc:∀ (l:List (Bs × Value)) (k:Bs) (v:Value) (i:Nat),sEs (l ++ [(k,v)]) i=sEs l i ++ [⟨.string (ofL k),v,i+l.length⟩]
 | [],_,_,_=>rfl
 | (a,b) :: r,k,v,i=>by
  simp only [List.cons_append,sEs,sEs_snoc r k v (i+1),List.length_cons]
  rw [show i+1+r.length=i+(r.length+1) by omega]
theorem insert_s (T E:TypeId) (hT:Tryz.prog.underlying T=some (.map 9 E)) (w:World) (l:List (Bs × Value)) (k:Bs) (v:Value) (hn:sFind k l=none) :
  (Instr.mapUpdate T (.map (some w.heap.size)) (.string (ofL k)) v).run Tryz.prog (w.alloc (.map (sEs l 0).toArray l.length))=.ok () (w.alloc (.map (sEs (l ++ [(k,v)]) 0).toArray (l.length+1))):=by
 have hm:(w.alloc (.map (sEs l 0).toArray l.length)).heap[w.heap.size]? = some (.map (sEs l 0).toArray l.length):=heap_alloc_new w _
 have hg:(getObj w.heap.size).run Tryz.prog (w.alloc (.map (sEs l 0).toArray l.length))=.ok (.map (sEs l 0).toArray l.length) (w.alloc (.map (sEs l 0).toArray l.length)):=MapKept.run_getObj_map hm
 obtain⟨n,hn2⟩:=findNow_s k l 0 0
 rw [hn] at hn2
 have hf:(Instr.findKey 9 (.string (ofL k)) (sEs l 0)).run Tryz.prog (w.alloc (.map (sEs l 0).toArray l.length))=.ok none (w.alloc (.map (sEs l 0).toArray l.length)):=by
  simp only [Instr.findKey,Sem.run_bind,run_underlying Tryz.underlying9,Result.andThen_ok,hn2]
  rfl
 have hs:∀ o,(setObj w.heap.size o).run Tryz.prog (w.alloc (.map (sEs l 0).toArray l.length))=.ok () (w.alloc o):=by
  intro o
  rw [MapKept.run_setObj_map o hm,heap_put];rfl
 have e:(sEs l 0).toArray.push ⟨.string (ofL k),v,l.length⟩=(sEs (l ++ [(k,v)]) 0).toArray:=by
  rw [sEs_snoc];simp
 unfold Instr.mapUpdate;simp only [Sem.run_bind,run_underlying hT,Result.andThen_ok,hg,run_checkStr,hf,hs,e]
end Go.Proofs.YthepmkjggfijoaaGreatDoor
namespace Go.Proofs.YthepmkjggfijoaaGreatDoor
open Go.RowKit Mist
attribute [local go_sem] ofL_extract ofL_size ofL_get ofL_bytes ofL_append
def elFn:El→Nat
 | .expr=>210
 | .put=>260
 | .param=>206
def lvFn:Lv→Nat
 | .or=>222
 | .and=>232
 | .not=>238
 | .cmp=>245
 | .sum=>251
 | .term=>255
 | .unary=>256
def jobFn:Job→Nat
 | .expr=>210
 | .lv v=>lvFn v
 | .post=>257
 | .atom=>258
 | .put=>260
 | .param=>206
 | .typ=>207
 | _=>0
def Fresh (w:World) (ext:List NV):Prop:=∀ x ∈ ext,∀ b,x.2.ownBlock=some b→w.heap.size≤b
theorem Fresh.nil (w:World):Fresh w []:=fun x h=>by cases h
theorem Fresh.append {w:World} {a b:List NV} (h:Fresh w a) (k:Fresh w b):Fresh w (a ++ b):=fun x hx=>by
 rcases List.mem_append.1 hx with hx | hx
 ·exact h x hx
 ·exact k x hx
theorem Fresh.mono {w w':World} {a:List NV} (h:Fresh w' a) (hs:w.heap.size≤w'.heap.size):Fresh w a:=fun x hx b hb=>Nat.le_trans hs (h x hx b hb)
theorem Fresh.one {w:World} {n:Nd} {v:Value} (h:∀ b,v.ownBlock=some b→w.heap.size≤b):Fresh w [(n,v)]:=fun x hx b hb=>by
 rw [List.mem_singleton.1 hx] at hb;exact h b hb
section
variable (g:Nat) (tv:Value) (l:List Tok) (en:Int) (iv:Value)
structure At (w:World) (xs:List NV) (nv:Value) (k:Nat) (ns:List Nd) (w':World) (ext:List NV) (nv':Value):Prop where
 ns:nds (xs ++ ext)=ns
 ps:PS g tv l en iv w' k (xs ++ ext) nv'
 mv:Mv g nv.ownBlock w nv'.ownBlock w'
 fresh:Fresh w ext
def IPost (w:World) (xs:List NV) (nv:Value) (r:Res) (e:Ending) (w':World):Prop :=
 match r with
 | .ok ks k ns=>e=.returned (.int .i64 (hd ks))∧∃ ext nv',At g tv l en iv w xs nv k ns w' ext nv'
 | .bad k=>e=wrongAt l en k∧Below g w w'
def LPost (w:World) (xs:List NV) (nv:Value) (r:Res) (e:Ending) (w':World):Prop :=
 match r with
 | .ok ks k ns=>∃ v ext nv',e=.returned v∧w'.ownsRow w.heap.size 3 1 v ks.length (intCells ks)∧At g tv l en iv w xs nv k ns w' ext nv'∧∀ x ∈ ext,x.2.ownBlock=none∨x.2.ownBlock ≠ v.ownBlock
 | .bad k=>e=wrongAt l en k∧Below g w w'
variable {g tv l en iv}
theorem IPost.ok {w w':World} {xs ext:List NV} {nv nv':Value} {ks:List Int} {k:Nat} {ns:List Nd} {e:Ending} (he:e=.returned (.int .i64 (hd ks))) (ha:At g tv l en iv w xs nv k ns w' ext nv'):IPost g tv l en iv w xs nv (.ok ks k ns) e w':=⟨he,ext,nv',ha⟩
theorem IPost.bad {w w':World} {xs:List NV} {nv:Value} {k:Nat} {e:Ending} (he:e=wrongAt l en k) (ha:Below g w w'):IPost g tv l en iv w xs nv (.bad k) e w':=⟨he,ha⟩
theorem LPost.bad {w w':World} {xs:List NV} {nv:Value} {k:Nat} {e:Ending} (he:e=wrongAt l en k) (ha:Below g w w'):LPost g tv l en iv w xs nv (.bad k) e w':=⟨he,ha⟩
variable (g tv l en iv)
def IC (m:Nat) (j:Job):Prop:=∀ (w:World) (k:Nat) (xs:List NV) (nv:Value) (r:Res),PS g tv l en iv w k xs nv→k≤l.length→xs.length≤k→Wf (nds xs)→run l en m j k (nds xs)=some r →
 Calls Tryz.prog (jobFn j) #[.pointer (some ⟨g,0,none⟩)] w (IPost g tv l en iv w xs nv r)
def LC (m:Nat) (e:El):Prop:=∀ (w:World) (k:Nat) (xs:List NV) (nv:Value) (r:Res),PS g tv l en iv w k xs nv→k≤l.length→xs.length≤k→Wf (nds xs)→run l en m (.list e) k (nds xs)=some r →
 Calls Tryz.prog 205 #[.pointer (some ⟨g,0,none⟩),.func (.func (elFn e)) #[] #[]] w (LPost g tv l en iv w xs nv r)
variable {g tv l en iv}
theorem At.refl {w:World} {k:Nat} {xs:List NV} {nv:Value} (h:PS g tv l en iv w k xs nv):At g tv l en iv w xs nv k (nds xs) w [] nv :=
 ⟨by simp,by simpa using h,Mv.refl,Fresh.nil _⟩
theorem At.trans {w w1 w2:World} {xs ext ext2:List NV} {nv nv1 nv2:Value} {k1 k2:Nat} {ns1 ns2:List Nd} (h:At g tv l en iv w xs nv k1 ns1 w1 ext nv1) (h2:At g tv l en iv w1 (xs ++ ext) nv1 k2 ns2 w2 ext2 nv2):At g tv l en iv w xs nv k2 ns2 w2 (ext ++ ext2) nv2 :=
 ⟨by rw [← List.append_assoc];exact h2.ns,by rw [← List.append_assoc];exact h2.ps,h.mv.trans h2.mv,h.fresh.append (h2.fresh.mono h.mv.size)⟩
theorem At.step {w w1 w2:World} {xs ext:List NV} {nv nv1:Value} {k1 k2:Nat} {ns1:List Nd} (h:At g tv l en iv w xs nv k1 ns1 w1 ext nv1) (p:PS g tv l en iv w2 k2 (xs ++ ext) nv1) (m:Mv g nv1.ownBlock w1 nv1.ownBlock w2):At g tv l en iv w xs nv k2 ns1 w2 ext nv1 :=
 ⟨h.ns,p,h.mv.trans m,h.fresh⟩
theorem At.add {w w1 w2:World} {xs ext:List NV} {nv nv1 nv2:Value} {k1:Nat} {ns1:List Nd} {n:Nd} {v:Value} (h:At g tv l en iv w xs nv k1 ns1 w1 ext nv1) (p:PS g tv l en iv w2 k1 ((xs ++ ext) ++ [(n,v)]) nv2) (m:Mv g nv1.ownBlock w1 nv2.ownBlock w2) (hf:∀ b,v.ownBlock=some b→w.heap.size≤b) :
  At g tv l en iv w xs nv k1 (ns1 ++ [n]) w2 (ext ++ [(n,v)]) nv2 :=
 ⟨by rw [← List.append_assoc,nds_append,h.ns];rfl,by rw [← List.append_assoc];exact p,h.mv.trans m,h.fresh.append (Fresh.one hf)⟩
theorem At.low {w w1:World} {xs ext:List NV} {nv nv1:Value} {k k1:Nat} {ns1:List Nd} (h:PS g tv l en iv w k xs nv) (a:At g tv l en iv w xs nv k1 ns1 w1 ext nv1):Below g w w1:=h.low a.mv
theorem At.len {w w1:World} {xs ext:List NV} {nv nv1:Value} {k1:Nat} {ns1:List Nd} (h:At g tv l en iv w xs nv k1 ns1 w1 ext nv1):(xs ++ ext).length=ns1.length:=by rw [← nds_len,h.ns]
def toGo (g n:Nat) (w:World):Nat:=n - (intOf ((w.cell? ⟨g,2,none⟩).getD undef)).toNat
theorem PS.toGo {w:World} {k n:Nat} {xs:List NV} {nv:Value} (h:PS g tv l en iv w k xs nv):toGo g n w=n - k:=by
 have e:w.cell? ⟨g,2,none⟩=some (.int .i64 k):=h.blk.cell 2
 unfold Go.Proofs.YthepmkjggfijoaaGreatDoor.toGo
 rw [e];simp [intOf]
end
section
variable {g:Nat} {tv:Value} {l:List Tok} {en:Int} {iv:Value}
theorem At.below {w w1 w2:World} {xs ext:List NV} {nv nv1:Value} {k1:Nat} {ns1:List Nd} (h:At g tv l en iv w xs nv k1 ns1 w1 ext nv1) (hb:Below w1.heap.size w1 w2):At g tv l en iv w xs nv k1 ns1 w2 ext nv1 :=
 ⟨h.ns,h.ps.below hb,h.mv.fbelow hb,h.fresh⟩
theorem At.alloc {w w1:World} {xs ext:List NV} {nv nv1:Value} {k1:Nat} {ns1:List Nd} (h:At g tv l en iv w xs nv k1 ns1 w1 ext nv1) (o:Obj):At g tv l en iv w xs nv k1 ns1 (w1.alloc o) ext nv1:=h.below ((Below.refl _ _).alloc (Nat.le_refl _) o)
theorem At.drew {w w1:World} {xs ext:List NV} {nv nv1:Value} {k1:Nat} {ns1:List Nd} (h:At g tv l en iv w xs nv k1 ns1 w1 ext nv1):At g tv l en iv w xs nv k1 ns1 w1.drew ext nv1:=h.below (Below.drew (Below.refl _ _))
theorem At.from_ {w w1:World} {o:Obj} {xs ext:List NV} {nv nv1:Value} {k1:Nat} {ns1:List Nd} (h:At g tv l en iv (w.alloc o) xs nv k1 ns1 w1 ext nv1):At g tv l en iv w xs nv k1 ns1 w1 ext nv1 :=
 ⟨h.ns,h.ps,(Mv.falloc Mv.refl).trans h.mv,h.fresh.mono (by simp)⟩
theorem Far.mv {w w1:World} {k:Nat} {xs:List NV} {nv:Value} {r1:Option Nat} (h:PS g tv l en iv w k xs nv) (m:Mv g nv.ownBlock w r1 w1) {b:Nat} {T:TypeId} {cs:Array Value} (hb:Blk w b T cs) (hg:g ≠ b) (hr:nv.ownBlock ≠ some b):Blk w1 b T cs∧r1 ≠ some b :=
 ⟨m.blk hb (Ne.symm hg) (Ne.symm hr),Ne.symm (m.ne hb.lt (Ne.symm hr))⟩
theorem PS.tag {w:World} {k:Nat} {xs:List NV} {nv:Value} (h:PS g tv l en iv w k xs nv) {b:Nat} {T:TypeId} {cs:Array Value} (hb:Blk w b T cs) (h1:T ≠ 107) (h2:T ≠ 50):b ≠ g∧some b ≠ nv.ownBlock :=
 ⟨hb.ne_ h.blk h1,fun e=>own_blk_ne h.own hb (Ne.symm h2) e.symm⟩
theorem At.blk {w1 w2:World} {xs ext:List NV} {nv nv1:Value} {k k1:Nat} {ns1:List Nd} (h:At g tv l en iv w1 xs nv k1 ns1 w2 ext nv1) (p:PS g tv l en iv w1 k xs nv) {b:Nat} {T:TypeId} {cs:Array Value} (hb:Blk w1 b T cs) (h1:T ≠ 107) (h2:T ≠ 50):Blk w2 b T cs :=
 h.mv.blk hb (p.tag hb h1 h2).1 (p.tag hb h1 h2).2
theorem PS.map_ne {w:World} {k:Nat} {xs:List NV} {nv:Value} (h:PS g tv l en iv w k xs nv) {b c:Nat} {es:Array MapEntry} (hb:w.heap[b]? = some (.map es c)):b ≠ g∧some b ≠ nv.ownBlock:=by
 constructor
 ·rintro rfl
  have:=h.blk;unfold Blk at this;rw [hb] at this;cases this
 ·intro e
  rcases h.own.2 with ⟨hv,_⟩ | ⟨b',cap,cur,hv,_,hh,_⟩
  ·rw [hv] at e;simp [Value.ownBlock] at e
  ·rw [hv] at e;simp [Value.ownBlock] at e
   rw [← e,hb] at hh;cases hh
theorem At.map {w1 w2:World} {xs ext:List NV} {nv nv1:Value} {k k1:Nat} {ns1:List Nd} (h:At g tv l en iv w1 xs nv k1 ns1 w2 ext nv1) (p:PS g tv l en iv w1 k xs nv) {b c:Nat} {es:Array MapEntry} (hb:w1.heap[b]? = some (.map es c)):w2.heap[b]? = some (.map es c) :=
 (h.mv.block b (Array.getElem?_eq_some_iff.1 hb).1 (p.map_ne hb).1 (p.map_ne hb).2).trans hb
theorem run_tail_stop {n k:Nat} {v:Lv} {a:Int} {ns:List Nd} (h:opOf v (tx l k)=0):run l en (n+1) (.tail v a) k ns=some (.ok [a] k ns):=by rw [run,if_pos h]
theorem run_tail_go {n k : Nat} {v : Lv} {a : Int} {ns : List Nd} (h : ¬ opOf v (tx l k) = 0) : run l en (n + 1) (.tail v a) k ns = thn (run l en n (.lv v.below) (k + 1) ns) fun b k1 ns1 => thn (add ⟨opOf v (tx l k), [], 0, [a, hd b], pl l en k⟩ k1 ns1) fun c k2 ns2 =>
      if v=.cmp then some (.ok [hd c] k2 ns2) else run l en n (.tail v (hd c)) k2 ns2:=by rw [run,if_neg h]
end
theorem add_at (g:Nat) (tv:Value) (l:List Tok) (en:Int) (iv:Value) (n:Nat) (K:Nat) (oa ob:Value) (p:Int) (x:Bs) (N:Int) (kv:Value) (kids:List Int) (w:World) (k:Nat) (xs:List NV) (nv:Value) (h:PS g tv l en iv w k xs nv) (hkid:KidRow w kv kids) (hN:xs.length=n) (hn:n≤1000000) :
  Calls Tryz.prog 204 #[.pointer (some ⟨g,0,none⟩),.int .u8 K,.agg #[oa,ob,.int .i64 p],.string (ofL x),.int .i64 N,kv] w fun e w'=>e=.returned (.int .i64 (n:Nat))∧∃ nv',PS g tv l en iv w' k (xs ++ [(⟨K,x,N,kids,p⟩,kv)]) nv'∧Mv g nv.ownBlock w nv'.ownBlock w':=by
 subst hN;exact add_any g tv l en iv K oa ob p x N kv kids w k xs nv h hkid hn
inductive Nth:List Oper→Nat→Oper→Prop
 | z {o:Oper} {r:List Oper}:Nth (o :: r) 0 o
 | s {a o:Oper} {r:List Oper} {n:Nat} (h:Nth r n o):Nth (a :: r) (n+1) o
theorem Nth.get {l:List Oper} {i:Nat} {o:Oper} (h:Nth l i o):l.toArray[i]? = some o:=by
 induction h with
 | z=>rfl
 | s _ ih=>simpa using ih
theorem take_nth {P:Program} {md:Region.Mode} {l:List Oper} {Q:Exit→Act→World→Prop} {S:World→Prop} {i:Nat} {oi:Oper} {fuel:Nat} {listed:Array Bool} {a:Act} {w:World} (hi:Nth l i oi)
  (hs:Region.noSelect l.toArray=true) (hf:Region.free md l.toArray listed i=true) (hr:(Region.ready md l.toArray listed).contains i=true) {v:Value}
  (hQ:∀ c a w,Q (.panic c) (a.put oi.dst v) w→Q (.panic c) a w) (hy:Region.wanted oi (yielded l.toArray a.tmps)=true∧∀ w,S w→(execOp a.eval oi).run P w=.ok (.value v) w) (hS:S w)
  (h:wpAnyH P md l.toArray Q S fuel (listed.setIfInBounds i true) (a.put oi.dst v) w):wpAnyH P md l.toArray Q S (fuel+1) listed a w :=
 wpAnyH_take hi.get hs hf hr hQ (Or.inl hy) hS h
theorem ready_nth {P:Program} {md:Region.Mode} {l:List Oper} {Q:Exit→Act→World→Prop} {S:World→Prop} {i:Nat} {oi:Oper} {fuel:Nat} {listed:Array Bool} {a:Act} {w:World} (hi:Nth l i oi)
  (h:∀ K':Act→World→Prop,Shut (∀ a w,S w→(S w→wpAnyH P md l.toArray Q S fuel (listed.setIfInBounds i true) a w)→K' a w)→if Region.wanted oi (yielded l.toArray a.tmps)=true then Oper.wp P oi a w K' Q else K' (a.put oi.dst undef) w) :
  AllReadyH P md l.toArray Q S fuel listed a w [i]:=AllReadyH.cons hi.get h AllReadyH.nil
theorem ready_two {P:Program} {md:Region.Mode} {l:List Oper} {Q:Exit→Act→World→Prop} {S:World→Prop} {i j:Nat} {oi oj:Oper} {fuel:Nat} {listed:Array Bool} {a:Act} {w:World} (hi:Nth l i oi) (hj:Nth l j oj)
  (h:∀ K':Act→World→Prop,Shut (∀ a w,S w→(S w→wpAnyH P md l.toArray Q S fuel (listed.setIfInBounds i true) a w)→K' a w)→if Region.wanted oi (yielded l.toArray a.tmps)=true then Oper.wp P oi a w K' Q else K' (a.put oi.dst undef) w)
  (h2:∀ K':Act→World→Prop,Shut (∀ a w,S w→(S w→wpAnyH P md l.toArray Q S fuel (listed.setIfInBounds j true) a w)→K' a w)→if Region.wanted oj (yielded l.toArray a.tmps)=true then Oper.wp P oj a w K' Q else K' (a.put oj.dst undef) w) :
  AllReadyH P md l.toArray Q S fuel listed a w [i,j]:=AllReadyH.cons hi.get h (AllReadyH.cons hj.get h2 AllReadyH.nil)
theorem kid_two (w:World) (a b:Int):KidRow (w.alloc (.cells #[.int .i64 a,.int .i64 b] 3)) (.slice (some ⟨w.heap.size,0,none⟩) 2 2) [a,b]:=World.ownsRow_lit w _ 2 (Nat.zero_le _) (by simp [maxLen]) rfl
theorem kid_one (w:World) (a:Int):KidRow (w.alloc (.cells #[.int .i64 a] 3)) (.slice (some ⟨w.heap.size,0,none⟩) 1 1) [a]:=World.ownsRow_lit w _ 1 (Nat.zero_le _) (by simp [maxLen]) rfl
theorem kid_three (w:World) (a b c:Int):KidRow (w.alloc (.cells #[.int .i64 a,.int .i64 b,.int .i64 c] 3)) (.slice (some ⟨w.heap.size,0,none⟩) 3 3) [a,b,c]:=World.ownsRow_lit w _ 3 (Nat.zero_le _) (by simp [maxLen]) rfl
def ents:Lv→List (Bs × Value)
 | .or=>[([111,114],.int .u8 18)]
 | .and=>[([97,110,100],.int .u8 17)]
 | .cmp=>[([61,61],.int .u8 11),([33,61],.int .u8 12),([60],.int .u8 13),([60,61],.int .u8 14),([62],.int .u8 15),([62,61],.int .u8 16)]
 | .sum=>[([43],.int .u8 6),([45],.int .u8 7)]
 | .term=>[([42],.int .u8 8),([47],.int .u8 9),([37],.int .u8 10)]
 | _=>[]
theorem ents_op (v:Lv) (x:Bs):(sFind x (ents v)).getD (.int .u8 0)=.int .u8 (opOf v x:Nat):=by
 cases v <;> simp only [ents,sFind,opOf] <;> (repeat' split) <;> rfl
theorem zero_u8 (w:World):(zeroValue 5).run Tryz.prog w=.ok (.int .u8 0) w:=by kernel_rfl
theorem zero_int (w:World):(zeroValue 3).run Tryz.prog w=.ok (.int .i64 0) w:=by kernel_rfl
theorem lookup_op (w:World) (v:Lv) (m c:Nat) (hm:w.heap[m]? = some (.map (sEs (ents v) 0).toArray c)) (x:Bs):(Instr.lookup 217 (.map (some m)) (.string (ofL x)) false).run Tryz.prog w=.ok (.int .u8 (opOf v x:Nat)) w:=by
 have h:=lookup_s 217 5 (.int .u8 0) Tryz.underlying217 w (zero_u8 w) (ents v) m c hm x false
 rw [h,ents_op];rfl
end Go.Proofs.YthepmkjggfijoaaGreatDoor
namespace Go.Proofs.YthepmkjggfijoaaGreatDoor
open Go.RowKit Mist
section
variable {g:Nat} {tv:Value} {l:List Tok} {en:Int} {iv:Value} {w w1 w2:World} {k:Nat} {xs:List NV} {nv:Value}
theorem LPost.ok {w':World} {ext:List NV} {nv' v:Value} {ks:List Int} {ns:List Nd} {e:Ending} (he:e=.returned v) (ho:w'.ownsRow w.heap.size 3 1 v ks.length (intCells ks)) (ha:At g tv l en iv w xs nv k ns w' ext nv') (hn:∀ x ∈ ext,x.2.ownBlock=none∨x.2.ownBlock ≠ v.ownBlock) :
  LPost g tv l en iv w xs nv (.ok ks k ns) e w':=⟨v,ext,nv',he,ho,ha,hn⟩
theorem PS.row_mv (h:PS g tv l en iv w k xs nv) {r1:Option Nat} (m:Mv g nv.ownBlock w r1 w1) {base e s n:Nat} {v:Value} {ys:List Value} (ho:w.ownsRow base e s v n ys) (h1:e ≠ 107) (h2:e ≠ 50):w1.ownsRow base e s v n ys :=
 m.row ho (own_blk_ne ho h.blk h1) (own_own_ne ho h.own h2)
theorem PS.kid_new {ys:List NV} (h:PS g tv l en iv w k (xs ++ ys) nv) {x:NV} (hx:x ∈ ys) {b n c:Nat} (hb:w.heap.size≤b):x.2.ownBlock=none∨x.2.ownBlock ≠ (Value.slice (some ⟨b,0,none⟩) n c).ownBlock:=by
 right
 intro e
 have:=(World.ownsRow.lt (h.kids x (List.mem_append_right _ hx)) b (by rw [e];rfl)).2
 omega
theorem fresh_ne {ext:List NV} {x:NV} {v:Value} (h:Fresh w ext) (hx:x ∈ ext) (hv:∀ b,v.ownBlock=some b→b < w.heap.size):x.2.ownBlock=none∨x.2.ownBlock ≠ v.ownBlock:=by
 rcases h1:x.2.ownBlock with _ | b
 ·exact .inl rfl
 ·right
  intro e
  have:=h x hx b h1
  have:=hv b e.symm
  omega
theorem Mv.fgrown {r0 r1 row:Option Nat} (h:Mv g r0 w r1 w1) (hg:w1.grownBy w2 row) (hr:∀ b,row=some b→w.heap.size≤b):Mv g r0 w r1 w2 :=
 ⟨hg.os.trans h.os,hg.tape.trans h.tape,hg.output.trans h.output,Nat.le_trans h.size hg.size,fun b hb h1 h2=>(hg.block b (Nat.lt_of_lt_of_le hb h.size) (fun e=>by have:=hr b e.symm;omega)).trans (h.block b hb h1 h2),h.tgt⟩
theorem PS.grown (h:PS g tv l en iv w k xs nv) {row:Option Nat} (hg:w.grownBy w1 row) (hr:∀ b,row=some b→Far g nv xs b):PS g tv l en iv w1 k xs nv:=by
 have hb:Below g w w1:=(Below.refl _ _).grown hg (Nat.le_of_lt h.lt) (fun b hb=>Nat.le_of_lt (hr b hb).lt)
 refine⟨h.blk.grown hg (fun e=>by have:=(hr g e.symm).lt;omega),h.own.kept hg ?_,fun x hx=>World.ownsRow.kept (h.kids x hx) hg ?_,h.toks.below hb,tab_below h.env hb⟩
 ·rcases h1:nv.ownBlock with _ | b
  ·exact .inl rfl
  ·right;intro e;exact (hr b e.symm).row h1
 ·rcases h1:x.2.ownBlock with _ | b
  ·exact .inl rfl
  ·right;intro e;exact (hr b e.symm).kids x hx h1
theorem At.grown {ext:List NV} {nv1:Value} {k1:Nat} {ns1:List Nd} {e s n:Nat} {v:Value} {ys:List Value} {o:Obj} (h:At g tv l en iv w xs nv k1 ns1 (w1.alloc o) ext nv1) (p0:PS g tv l en iv w k xs nv) (ho:w1.ownsRow w.heap.size e s v n ys) (he:e ≠ 50)
  (hg:(w1.alloc o).grownBy w2 v.ownBlock) (hn:∀ x ∈ ext,x.2.ownBlock=none∨x.2.ownBlock ≠ v.ownBlock):At g tv l en iv w xs nv k1 ns1 w2 ext nv1:=by
 have hlt:∀ b,v.ownBlock=some b→w.heap.size≤b:=fun b hb=>(ho.lt b hb).1
 refine⟨h.ns,h.ps.grown hg (fun b hb=>⟨Nat.lt_of_lt_of_le p0.lt (hlt b hb),fun e2=>?_,fun x hx e2=>?_⟩),h.mv.fgrown hg hlt,h.fresh⟩
 ·rcases own_own_ne (ho.alloc o) h.ps.own he with h3 | h3
  ·rw [h3] at hb;cases hb
  ·exact h3 (by rw [hb,e2])
 ·rcases List.mem_append.1 hx with hx | hx
  ·have h4:=World.ownsRow.lt (p0.kids x hx) b e2
   have:=hlt b hb
   omega
  ·rcases hn x hx with h3 | h3
   ·rw [h3] at e2;cases e2
   ·exact h3 (by rw [e2,hb])
end
theorem need_split {l:List Tok} {t:Bs} {k:Nat} {f:Option Res} {r:Res} (h:Mist.need l t k f=some r):(tx l k=t∧f=some r)∨(¬ tx l k=t∧r=.bad k):=by
 unfold Mist.need at h
 split at h
 ·rename_i e;exact .inl ⟨e,h⟩
 ·rename_i e;exact .inr ⟨e,(Option.some.inj h).symm⟩
theorem needK_split {l:List Tok} {c:Nat} {k:Nat} {f:Option Res} {r:Res} (h:Mist.needK l c k f=some r):((tg l k).kind=c∧f=some r)∨(¬ (tg l k).kind=c∧r=.bad k):=by
 unfold Mist.needK at h
 split at h
 ·rename_i e;exact .inl ⟨e,h⟩
 ·rename_i e;exact .inr ⟨e,(Option.some.inj h).symm⟩
theorem thn_split {x:Option Res} {f:List Int→Nat→List Nd→Option Res} {r:Res} (h:thn x f=some r):(∃ ks k ns,x=some (.ok ks k ns)∧f ks k ns=some r)∨(∃ k,x=some (.bad k)∧r=.bad k):=by
 cases x with
 | none=>cases h
 | some y =>
  cases y with
  | ok ks k ns=>exact .inl ⟨ks,k,ns,rfl,h⟩
  | bad k=>exact .inr ⟨k,rfl,(Option.some.inj h).symm⟩
theorem add_split {n:Nd} {k:Nat} {ns:List Nd} {r:Res} (h:Mist.add n k ns=some r):r=.ok [(ns.length:Int)] k (ns ++ [n]):=(Option.some.inj h).symm
theorem if_split {p:Prop} [Decidable p] {a b:Option Res} {r:Res} (h:(if p then a else b)=some r):(p∧a=some r)∨(¬ p∧b=some r):=by
 split at h
 ·rename_i e;exact .inl ⟨e,h⟩
 ·rename_i e;exact .inr ⟨e,h⟩
def isFn:Job→Bool
 | .expr | .lv _ | .post | .atom | .put | .param | .typ=>true
 | _=>false
end Go.Proofs.YthepmkjggfijoaaGreatDoor
