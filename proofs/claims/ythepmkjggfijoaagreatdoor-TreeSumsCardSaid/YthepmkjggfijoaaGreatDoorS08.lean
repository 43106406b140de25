/-
  A part of the proof.
-/
import Derived.Test.YthepmkjggfijoaaGreatDoorSA
import Derived.Deep.RegionLaw
import Derived.Deep.AppendLies
import Derived.MapKept
import Derived.Deep.RegionHeld3
import Derived.RegionCalls
import Derived.Test.YthepmkjggfijoaaGreatDoorS07
set_option linter.all false
set_option maxRecDepth 100000
set_option maxHeartbeats 2000000
open Go.Lib (hid)
namespace Go.Proofs.YthepmkjggfijoaaGreatDoor
open Go.RowKit Mist
attribute [local go_sem] aj aH aS aB ak
theorem yZ (w:World)(a b:Obj):((w.alloc a).alloc b).heap[w.heap.size+1]? = some b:=by
 have h:=heap_alloc_new (w.alloc a) b;rw [World.size_alloc] at h;exact h
def aI (l:List Tok)(en:Int)(k:Nat):Ending:=.panicked [{ v:=.iface 109 (.agg #[.int .i64 (pl l en k)]),recovered:=false }]
structure PF (l:List Tok):Prop where
 len:l.length≤1000
 kind:∀ t ∈ l,Mist.kind t.text=t.kind
 text:∀ t ∈ l,t.text.length≤2000
theorem PF.tx {l:List Tok}(h:PF l)(k:Nat):(tx l k).length≤2000:=by
 rcases Nat.lt_or_ge k l.length with h1 | h1
 ·exact h.text _ (lN l k h1)
 ·unfold Mist.tx;rw [nS l k h1];simp
section
variable (g:Nat) (tv:Value) (l:List Tok) (en:Int) (iv:Value) (hF:PF l)
include hF
theorem eZ (x:Bs)(hx:Mist.kind x=3∨Mist.kind x=4)(w:World)(k:Nat)(xs:List NV)(nv:Value)(h:PS g tv l en iv w k xs nv)(hk:k≤l.length)(he:tx l k=x) :
  Calls Tryz.prog 139 #[.pointer (some ⟨g,0,none⟩),.string (aM x)] w fun e w'=>e=.returned (jl l en k)∧PS g tv l en iv w' (k+1) xs nv∧Mv g nv.ownBlock w nv.ownBlock w':=by
 have H:=hid h;clear h;have HE:=hid (show decide (tx l k=x)=true by simp [he]);clear he;have FF:=hid (H.out.new (aaJ _));have bR:=aC.new w 68 #[.int .u8 0,.string ⟨#[]⟩,.int .i64 0];go_in
 go_wp2_with fail;refine (yw x hx g tv l en iv _ k xs nv ((H.out.alloc _).alloc _) hk hF.len hF.kind (w.heap.size+1) _ 9 (0,0) (yZ _ _ _) true HE.out).mono ?_;rintro e w1⟨rfl,hb⟩;have Ua:=(bR.alloc (.cells #[.string (aM x)] 9)).below hb (by simp;omega);have HM:=hid ((((Mv.refl (g:=g) (r0:=nv.ownBlock) (w:=w)).dD (o:=.cells #[.int .u8 0,.string ⟨#[]⟩,.int .i64 0] 68)).dD (o:=.cells #[.string (aM x)] 9)).aL hb);have H1:=hid (((H.out.alloc (.cells #[.int .u8 0,.string ⟨#[]⟩,.int .i64 0] 68)).alloc (.cells #[.string (aM x)] 9)).below hb);clear hb bR;go_wp2_with fail;refine (nO g tv l en iv _ k xs nv H1.out hk hF.len).mono ?_;rintro e w2⟨rfl,h2,m2⟩;have AV:=m2.blk Ua (Nat.ne_of_gt FF.out.lt) (Ne.symm FF.out.row);have qj:=hid (HM.out.trans m2);have H2:=hid h2;clear m2 h2 Ua;have Xz:=AV.lt;have r0:=AV.cell 0;have r1:=AV.cell 1;have r2:=AV.cell 2;have z0:=AV.frozen 0;have z1:=AV.frozen 1;have z2:=AV.frozen 2;clear AV;go_wp2_with fail;refine bodyPost_ret (v:=jl l en k) (by simp [results,go_sem,jl,r0,r1,r2]) rfl ?_;exact⟨rfl,by (repeat (first | exact H2.out | refine PS.far ?_ FF.out _ _)),by (repeat (first | exact qj.out | refine Mv.kL ?_ (aaJ _)))⟩
theorem gQ (x:Bs)(hx:Mist.kind x=3∨Mist.kind x=4)(w:World)(k:Nat)(xs:List NV)(nv:Value)(h:PS g tv l en iv w k xs nv)(hk:k≤l.length)(he:¬ tx l k=x) :
  Calls Tryz.prog 139 #[.pointer (some ⟨g,0,none⟩),.string (aM x)] w fun e w'=>e=aI l en k∧Below w.heap.size w w':=by
 have H:=hid h;clear h;have HE:=hid (show decide (tx l k=x)=false by simp [he]);clear he;go_in
 go_wp2_with fail;refine (yw x hx g tv l en iv _ k xs nv ((H.out.alloc _).alloc _) hk hF.len hF.kind (w.heap.size+1) _ 9 (0,0) (yZ _ _ _) false HE.out).mono ?_;rintro e w1⟨rfl,hb⟩;have H1:=hid (((H.out.alloc (.cells #[.int .u8 0,.string ⟨#[]⟩,.int .i64 0] 68)).alloc (.cells #[.string (aM x)] 9)).below hb);have HB:=hid ((ah (o:=.cells #[.string (aM x)] 9) (ah (o:=.cells #[.int .u8 0,.string ⟨#[]⟩,.int .i64 0] 68) (Below.refl w.heap.size w) (aaJ _)) (by simp)).trans (hb.mono (by simp;omega)));clear hb;go_wp2_with fail;refine (sJ g tv l en iv _ k xs nv H1.out hk hF.len).mono ?_;rintro e w2⟨rfl,hb⟩;go_wp2_with fail;exact⟨rfl,rfl,HB.out.trans (hb.mono HB.out.size)⟩
theorem jg (x:Bs)(hx:Mist.kind x=3∨Mist.kind x=4)(w:World)(k:Nat)(xs:List NV)(nv:Value)(h:PS g tv l en iv w k xs nv)(hk:k≤l.length)(he:tx l k=x) :
  Calls Tryz.prog 208 #[.pointer (some ⟨g,0,none⟩),.string (aM x)] w fun e w'=>e=.returned (.bool true)∧PS g tv l en iv w' (k+1) xs nv∧Mv g nv.ownBlock w nv.ownBlock w':=by
 have H:=hid h;clear h;have HE:=hid (show decide (tx l k=x)=true by simp [he]);clear he;go_in
 go_wp2_with fail;refine (yw x hx g tv l en iv _ k xs nv (H.out.alloc _) hk hF.len hF.kind w.heap.size _ 9 (0,0) (heap_alloc_new _ _) true HE.out).mono ?_;rintro e w1⟨rfl,hb⟩;have HM:=hid (((Mv.refl (g:=g) (r0:=nv.ownBlock) (w:=w)).dD (o:=.cells #[.string (aM x)] 9)).aL hb);have H1:=hid ((H.out.alloc (.cells #[.string (aM x)] 9)).below hb);clear hb;go_wp2_with fail;refine (nO g tv l en iv _ k xs nv H1.out hk hF.len).mono ?_;rintro e w2⟨rfl,h2,m2⟩;have qj:=hid (HM.out.trans m2);have H2:=hid h2;clear m2 h2;go_wp2_with fail;go_ret;exact⟨rfl,H2.out,qj.out⟩
theorem kN (x:Bs)(hx:Mist.kind x=3∨Mist.kind x=4)(w:World)(k:Nat)(xs:List NV)(nv:Value)(h:PS g tv l en iv w k xs nv)(hk:k≤l.length)(he:¬ tx l k=x) :
  Calls Tryz.prog 208 #[.pointer (some ⟨g,0,none⟩),.string (aM x)] w fun e w'=>e=.returned (.bool false)∧Below w.heap.size w w':=by
 have H:=hid h;clear h;have HE:=hid (show decide (tx l k=x)=false by simp [he]);clear he;go_in
 go_wp2_with fail;refine (yw x hx g tv l en iv _ k xs nv (H.out.alloc _) hk hF.len hF.kind w.heap.size _ 9 (0,0) (heap_alloc_new _ _) false HE.out).mono ?_;rintro e w1⟨rfl,hb⟩;have HB:=hid ((ah (o:=.cells #[.string (aM x)] 9) (Below.refl w.heap.size w) (aaJ _)).trans (hb.mono (by simp)));clear hb;go_wp2_with fail;go_ret;exact⟨rfl,HB.out⟩
theorem OL (c:Nat)(w:World)(k:Nat)(xs:List NV)(nv:Value)(h:PS g tv l en iv w k xs nv)(hk:k≤l.length)(he:(tg l k).kind=c) :
  Calls Tryz.prog 220 #[.pointer (some ⟨g,0,none⟩),.int .u8 c] w fun e w'=>e=.returned (jl l en k)∧PS g tv l en iv w' (k+1) xs nv∧Mv g nv.ownBlock w nv.ownBlock w':=by
 have H:=hid h;clear h;have he':(((tg l k).kind:Int) != (c:Int))=false:=by rw [he];simp
 clear he;have FF:=hid (H.out.new (aaJ _));have bR:=aC.new w 68 #[.int .u8 0,.string ⟨#[]⟩,.int .i64 0];have f0:=AP;go_in
 go_wp2_with fail;refine (h_ g tv l en iv _ k xs nv (H.out.alloc _) hk hF.len).mono ?_;rintro e w1⟨rfl,hb⟩;have Ua:=bR.below hb (by simp);have HM:=hid (((Mv.refl (g:=g) (r0:=nv.ownBlock) (w:=w)).dD (o:=.cells #[.int .u8 0,.string ⟨#[]⟩,.int .i64 0] 68)).aL hb);have H1:=hid ((H.out.alloc (.cells #[.int .u8 0,.string ⟨#[]⟩,.int .i64 0] 68)).below hb);clear hb bR;go_wp2_with fail;refine (nO g tv l en iv _ k xs nv H1.out hk hF.len).mono ?_;rintro e w2⟨rfl,h2,m2⟩;have AV:=m2.blk Ua (Nat.ne_of_gt FF.out.lt) (Ne.symm FF.out.row);have qj:=hid (HM.out.trans m2);have H2:=hid h2;clear m2 h2 Ua;have Xz:=AV.lt;have r0:=AV.cell 0;have r1:=AV.cell 1;have r2:=AV.cell 2;have z0:=AV.frozen 0;have z1:=AV.frozen 1;have z2:=AV.frozen 2;clear AV;go_wp2_with fail;refine bodyPost_ret (v:=jl l en k) (by simp [results,go_sem,jl,r0,r1,r2]) rfl ?_;exact⟨rfl,by (repeat (first | exact H2.out | refine PS.far ?_ FF.out _ _)),by (repeat (first | exact qj.out | refine Mv.kL ?_ (aaJ _)))⟩
theorem Uo (c:Nat)(w:World)(k:Nat)(xs:List NV)(nv:Value)(h:PS g tv l en iv w k xs nv)(hk:k≤l.length)(he:¬ (tg l k).kind=c) :
  Calls Tryz.prog 220 #[.pointer (some ⟨g,0,none⟩),.int .u8 c] w fun e w'=>e=aI l en k∧Below w.heap.size w w':=by
 have H:=hid h;clear h;have he':(((tg l k).kind:Int) != (c:Int))=true:=by simp;omega
 clear he;have f0:=AP;go_in
 go_wp2_with fail;refine (h_ g tv l en iv _ k xs nv (H.out.alloc _) hk hF.len).mono ?_;rintro e w1⟨rfl,hb⟩;have HB:=hid ((ah (o:=.cells #[.int .u8 0,.string ⟨#[]⟩,.int .i64 0] 68) (Below.refl w.heap.size w) (aaJ _)).trans (hb.mono (by simp)));have H1:=hid ((H.out.alloc (.cells #[.int .u8 0,.string ⟨#[]⟩,.int .i64 0] 68)).below hb);clear hb;go_wp2_with fail;refine (sJ g tv l en iv _ k xs nv H1.out hk hF.len).mono ?_;rintro e w2⟨rfl,hb⟩;go_wp2_with fail;exact⟨rfl,rfl,HB.out.trans (hb.mono HB.out.size)⟩
theorem lC (w:World)(k:Nat)(xs:List NV)(nv:Value)(h:PS g tv l en iv w k xs nv)(hk:k≤l.length)(he:(tg l k).kind=1) :
  Calls Tryz.prog 202 #[.pointer (some ⟨g,0,none⟩)] w fun e w'=>e=.returned (jl l en k)∧PS g tv l en iv w' (k+1) xs nv∧Mv g nv.ownBlock w nv.ownBlock w':=by
 have H:=hid h;clear h;have HE:=hid he;clear he;have FF:=hid (H.out.new (aaJ _));have bR:=aC.new w 68 #[.int .u8 0,.string ⟨#[]⟩,.int .i64 0];go_in
 go_wp2_with fail;refine (OL g tv l en iv hF 1 _ k xs nv (H.out.alloc _) hk HE.out).mono ?_;rintro e w2⟨rfl,h2,m2⟩;have AV:=m2.blk bR (Nat.ne_of_gt FF.out.lt) (Ne.symm FF.out.row);have qj:=hid (((Mv.refl (g:=g) (r0:=nv.ownBlock) (w:=w)).dD (o:=.cells #[.int .u8 0,.string ⟨#[]⟩,.int .i64 0] 68)).trans m2);have H2:=hid h2;clear m2 h2 bR;have Xz:=AV.lt;have r0:=AV.cell 0;have r1:=AV.cell 1;have r2:=AV.cell 2;have z0:=AV.frozen 0;have z1:=AV.frozen 1;have z2:=AV.frozen 2;clear AV;unfold jl;go_wp2_with fail;refine bodyPost_ret (v:=jl l en k) (by simp [results,go_sem,jl,r0,r1,r2]) rfl ?_;exact⟨rfl,by (repeat (first | exact H2.out | refine PS.far ?_ FF.out _ _)),by (repeat (first | exact qj.out | refine Mv.kL ?_ (aaJ _)))⟩
theorem mX (w:World)(k:Nat)(xs:List NV)(nv:Value)(h:PS g tv l en iv w k xs nv)(hk:k≤l.length)(he:¬ (tg l k).kind=1) :
  Calls Tryz.prog 202 #[.pointer (some ⟨g,0,none⟩)] w fun e w'=>e=aI l en k∧Below w.heap.size w w':=by
 have H:=hid h;clear h;have HE:=hid he;clear he;go_in
 go_wp2_with fail;refine (Uo g tv l en iv hF 1 _ k xs nv (H.out.alloc _) hk HE.out).mono ?_;rintro e w2⟨rfl,hb⟩;unfold aI;go_wp2_with fail;exact⟨rfl,rfl,(ah (o:=.cells #[.int .u8 0,.string ⟨#[]⟩,.int .i64 0] 68) (Below.refl w.heap.size w) (aaJ _)).trans (hb.mono (by simp))⟩
end
section
variable (g:Nat) (tv:Value) (l:List Tok) (en:Int) (iv:Value)
theorem add_any (K:Nat)(oa ob:Value)(p:Int)(x:Bs)(N:Int)(kv:Value)(kids:List Int)(w:World)(k:Nat)(xs:List NV)(nv:Value)(h:PS g tv l en iv w k xs nv)(Mi:cB w kv kids)(hn:xs.length≤1000000) :
  Calls Tryz.prog 204 #[.pointer (some ⟨g,0,none⟩),.int .u8 K,.agg #[oa,ob,.int .i64 p],.string (aM x),.int .i64 N,kv] w fun e w'=>e=.returned (.int .i64 (xs.length:Nat))∧∃ eO,PS g tv l en iv w' k (xs ++ [(⟨K,x,N,kids,p⟩,kv)]) eO∧Mv g nv.ownBlock w eO.ownBlock w':=by
 obtain⟨A,c,rfl⟩:=dh Mi;obtain⟨i0,hi0,hz0,hz1,hz2⟩:=info_parts rW;have H:=hid h;clear h;have HK:=hid Mi;clear Mi;have hlt:=H.out.lt;have c3:=H.out.blk.cell 3;have f3:=H.out.blk.frozen 3;obtain⟨kn,hkn⟩:∃ kn,kn=kids.length:=⟨_,rfl⟩;rw [← hkn];have HKN:=hid hkn;clear hkn;have hne:¬ w.heap.size=g:=by omega
 go_in
 go_wp2_with fail
 go_region_law ((refine step_append_lies _ (by rfl) _ _ _ (by rfl) g 50 i0 _ 5 64 Tryz.underlying23 hi0 hz0 hz1 hz2 rfl (by omega) _ xs.length (iO xs) (by rfl) (((H.out.own.alloc _).alloc _).drew)
                  ⟨w.heap.size+1,0,none⟩ 1 1 (fC (⟨K,x,N,kids,p⟩,.slice A kn c)) (by rfl) (by rfl) (World.news_of_block (cs:=#[.int .u8 K,.string (aM x),.int .i64 N,.slice A kn c,.int .i64 p]) (t:=50) (fr:=(0,0)) (yZ w _ _)) (by intro u hu;simp [fC] at hu;rcases hu with rfl | rfl | rfl | rfl | rfl <;> rfl)
                  (by omega) (by simp only [maxLen];omega) (by omega) (by simp;omega) (w.heap.size+2) (by simp) ?_;intro gg cap w1 hown1 hgrow hat hlt';have kk:=((H.out.alloc (.cells #[oa,ob,.int .i64 p] 68)).alloc (.cells #[.int .u8 K,.string (aM x),.int .i64 N,.slice A kn c,.int .i64 p] 50)).drew.blk.grown hgrow (fun e=>aT H.out.own H.out.blk (by decide) e.symm);have c3':=kk.cell 3;have f3':=kk.frozen 3;clear kk))
 all_goals
  have HGR:=hid hgrow;clear hgrow;have HOW:=hid hown1;clear hown1;have HAT:=hid hat;clear hat;go_wp2;go_ret
  refine⟨by (first | rfl|(congr 2;omega)),_,PS.add ((H.out.alloc (.cells #[oa,ob,.int .i64 p] 68)).alloc (.cells #[.int .u8 K,.string (aM x),.int .i64 N,.slice A kn c,.int .i64 p] 50)).drew HGR.out HOW.out (HKN.out ▸ own_below HK.out (Below.drew (ah (ah (Below.refl _ _) (aaJ _)) (by simp)))),?_⟩
  refine Mv.gset ?_;refine Mv.trans (r1:=nv.ownBlock) (Mv.dD (Mv.dD Mv.refl)).Zp (Mv.grown HGR.out ?_);rcases HAT.out with e | e
  ·left;rw [e];rfl
  ·right;rw [e];simp [Value.ownBlock]
theorem pY (hF:PF l)(w:World)(k:Nat)(xs:List NV)(nv:Value)(h:PS g tv l en iv w k xs nv)(hk:k≤l.length)(he:(tg l k).kind=2) :
  Calls Tryz.prog 209 #[.pointer (some ⟨g,0,none⟩)] w fun e w'=>e=.returned (.tuple #[jl l en k,.int .i64 (numOf (tx l k):Nat)])∧PS g tv l en iv w' (k+1) xs nv∧Mv g nv.ownBlock w nv.ownBlock w':=by
 have H:=hid h;clear h;have HN:=hid (mY (tx l k) (by unfold tx;rw [hF.kind _ (lN l k (fA he (by simp))),he]));have HE:=hid he;clear he;have FF:=hid (H.out.new (aaJ _));have bR:=aC.new w 68 #[.int .u8 0,.string ⟨#[]⟩,.int .i64 0];go_in
 go_wp2_with fail;refine (OL g tv l en iv hF 2 _ k xs nv (H.out.alloc _) hk HE.out).mono ?_;rintro e w2⟨rfl,h2,m2⟩;have AV:=m2.blk bR (Nat.ne_of_gt FF.out.lt) (Ne.symm FF.out.row);have qj:=hid (((Mv.refl (g:=g) (r0:=nv.ownBlock) (w:=w)).dD (o:=.cells #[.int .u8 0,.string ⟨#[]⟩,.int .i64 0] 68)).trans m2);have H2:=hid h2;have bT:=aC.new w2 68 #[.int .u8 (tg l k).kind,.string (aM (tx l k)),.int .i64 (pl l en k)];have bR3:=AV.alloc (.cells #[.int .u8 (tg l k).kind,.string (aM (tx l k)),.int .i64 (pl l en k)] 68);have hl0:=AV.lt;clear m2 h2 bR AV;unfold jl;go_wp2_with fail;refine (Sk (tx l k) _ ((H2.out.alloc (.cells #[.int .u8 (tg l k).kind,.string (aM (tx l k)),.int .i64 (pl l en k)] 68)).envw) (by have:=hF.tx k;omega)).mono ?_;rintro e w3⟨rfl,hb3⟩;rw [HN.out];have bR4:=bR3.below hb3 bR3.lt;have vX:=bT.below hb3 bT.lt;have H3:=hid ((H2.out.alloc (.cells #[.int .u8 (tg l k).kind,.string (aM (tx l k)),.int .i64 (pl l en k)] 68)).below hb3);have Jg:=hid ((qj.out.dD (o:=.cells #[.int .u8 (tg l k).kind,.string (aM (tx l k)),.int .i64 (pl l en k)] 68)).aL hb3);have Xz:=bR3.lt;have hne:¬ w2.heap.size=w.heap.size:=by omega
 clear hb3 bR3 bT;have r0:=bR4.cell 0;have r1:=bR4.cell 1;have r2:=bR4.cell 2;have z0:=bR4.frozen 0;have z1:=bR4.frozen 1;have z2:=bR4.frozen 2;have t0:=vX.cell 0;have t1:=vX.cell 1;have t2:=vX.cell 2;clear bR4 vX;go_wp2_with fail;refine bodyPost_ret (v:=.tuple #[jl l en k,.int .i64 (numOf (tx l k):Nat)]) (by simp [results,go_sem,jl,r0,r1,r2]) rfl ?_;exact⟨rfl,by (repeat (first | exact H3.out | refine PS.far ?_ FF.out _ _)),by (repeat (first | exact Jg.out | refine Mv.kL ?_ (aaJ _)))⟩
theorem vC (hF:PF l)(w:World)(k:Nat)(xs:List NV)(nv:Value)(h:PS g tv l en iv w k xs nv)(hk:k≤l.length)(he:¬ (tg l k).kind=2) :
  Calls Tryz.prog 209 #[.pointer (some ⟨g,0,none⟩)] w fun e w'=>e=aI l en k∧Below w.heap.size w w':=by
 have H:=hid h;clear h;have HE:=hid he;clear he;go_in
 go_wp2_with fail;refine (Uo g tv l en iv hF 2 _ k xs nv (H.out.alloc _) hk HE.out).mono ?_;rintro e w2⟨rfl,hb⟩;unfold aI;go_wp2_with fail;exact⟨rfl,rfl,(ah (o:=.cells #[.int .u8 0,.string ⟨#[]⟩,.int .i64 0] 68) (Below.refl w.heap.size w) (aaJ _)).trans (hb.mono (by simp))⟩
end
def jF:List (Bs × Value)→Nat→List MapEntry
 | [],_=>[]
 | (k,v) :: r,i=>⟨.string (aM k),v,i⟩ :: jF r (i+1)
def sW (x:Bs):List (Bs × Value)→Option Value
 | []=>none
 | (k,v) :: r=>if x=k then some v else sW x r
theorem ofL_beq (x:Bs)(y:Bs):(aM x == aM y)=decide (x=y):=by
 rw [aaI];constructor
 ·intro h
  have:=aB x
  rw [beq_toListBytes] at h
  rw [aB,aB] at h
  simpa using h
 ·intro h;have h:x=y:=by simpa using h
  rw [h,beq_toListBytes];simp
theorem DZ (x:Bs):∀ (l:List (Bs × Value)) (i j:Nat),∃ n,Instr.findNow .string (.string (aM x)) (jF l j) i=some ((sW x l).map fun v=>(n,v))
 | [],i,j=>⟨0,rfl⟩
 | (k,v) :: r,i,j=>by
  simp only [jF,sW,Instr.findNow,Instr.sameNow,ofL_beq];by_cases h:x=k
  ·exact⟨i,by simp [h]⟩
  ·obtain⟨n,hn⟩:=DZ x r (i+1) (j+1);exact⟨n,by simp [h,hn]⟩
theorem Dc (b:Bool)(s:ByteArray)(w:World):(Instr.checkKey b 10000 9 (.string s)).run Tryz.prog w=.ok () w :=
 MapKept.run_checkKey Tryz.underlying9 (by trivial) b 9999
theorem Ic (T E:TypeId)(z:Value)(hT:Tryz.prog.underlying T=some (.map 9 E))(w:World)(hz:(zeroValue E).run Tryz.prog w=.ok z w)(l:List (Bs × Value))(m c:Nat)(hm:w.heap[m]? = some (.map (jF l 0).toArray c))(x:Bs)(ok:Bool) :
  (Instr.lookup T (.map (some m)) (.string (aM x)) ok).run Tryz.prog w=.ok (if ok then .tuple #[(sW x l).getD z,.bool (sW x l).isSome] else (sW x l).getD z) w:=by
 have hg:(getObj m).run Tryz.prog w=.ok (.map (jF l 0).toArray c) w:=MapKept.run_getObj_map hm;obtain⟨n,hn⟩:=DZ x l 0 0
 have hf:(Instr.findKey 9 (.string (aM x)) (jF l 0)).run Tryz.prog w=.ok ((sW x l).map fun v=>(n,v)) w:=by
  simp only [Instr.findKey,Sem.run_bind,run_underlying Tryz.underlying9,Result.andThen_ok,hn];rfl
 unfold Instr.lookup;simp only [Sem.run_bind,run_underlying hT,Result.andThen_ok,hg,Dc,hf,Sem.run_pure]
 cases sW x l with
 | none =>
  simp only [Option.map_none,Sem.run_bind,hz,Result.andThen_ok,Sem.run_pure]
  cases ok <;> rfl
 | some v =>
  simp only [Option.map_some,Sem.run_pure,Result.andThen_ok]
  cases ok <;> rfl
theorem heap_put (w:World)(o o':Obj):(w.alloc o).heap.setIfInBounds w.heap.size o'=(w.alloc o').heap:=by
 show (w.heap.push o).setIfInBounds w.heap.size o'=w.heap.push o'
 ext i h1 h2
 ·simp
 ·rw [Array.getElem_setIfInBounds]
  ·rw [Array.getElem_push,Array.getElem_push];split
   ·rename_i h;subst h;simp
   ·split <;> first | rfl|(simp at h2;omega)
  ·simpa using h1
theorem Px:∀ (l:List (Bs × Value)) (k:Bs) (v:Value) (i:Nat),jF (l ++ [(k,v)]) i=jF l i ++ [⟨.string (aM k),v,i+l.length⟩]
 | [],_,_,_=>rfl
 | (a,b) :: r,k,v,i=>by
  simp only [List.cons_append,jF,Px r k v (i+1),List.length_cons];rw [show i+1+r.length=i+(r.length+1) by omega]
theorem fM (T E:TypeId)(hT:Tryz.prog.underlying T=some (.map 9 E))(w:World)(l:List (Bs × Value))(k:Bs)(v:Value)(hn:sW k l=none) :
  (Instr.mapUpdate T (.map (some w.heap.size)) (.string (aM k)) v).run Tryz.prog (w.alloc (.map (jF l 0).toArray l.length))=.ok () (w.alloc (.map (jF (l ++ [(k,v)]) 0).toArray (l.length+1))):=by
 have hm:(w.alloc (.map (jF l 0).toArray l.length)).heap[w.heap.size]? = some (.map (jF l 0).toArray l.length):=heap_alloc_new w _;have hg:(getObj w.heap.size).run Tryz.prog (w.alloc (.map (jF l 0).toArray l.length))=.ok (.map (jF l 0).toArray l.length) (w.alloc (.map (jF l 0).toArray l.length)):=MapKept.run_getObj_map hm;obtain⟨n,hn2⟩:=DZ k l 0 0;rw [hn] at hn2
 have hf:(Instr.findKey 9 (.string (aM k)) (jF l 0)).run Tryz.prog (w.alloc (.map (jF l 0).toArray l.length))=.ok none (w.alloc (.map (jF l 0).toArray l.length)):=by
  simp only [Instr.findKey,Sem.run_bind,run_underlying Tryz.underlying9,Result.andThen_ok,hn2];rfl
 have hs:∀ o,(setObj w.heap.size o).run Tryz.prog (w.alloc (.map (jF l 0).toArray l.length))=.ok () (w.alloc o):=by
  intro o;rw [MapKept.run_setObj_map o hm,heap_put];rfl
 have e:(jF l 0).toArray.push ⟨.string (aM k),v,l.length⟩=(jF (l ++ [(k,v)]) 0).toArray:=by
  rw [Px];simp
 unfold Instr.mapUpdate;simp only [Sem.run_bind,run_underlying hT,Result.andThen_ok,hg,Dc,hf,hs,e]
def elFn:El→Nat
 | .expr=>210
 | .put=>260
 | .param=>206
def V6:Lv→Nat
 | .or=>222
 | .and=>232
 | .not=>238
 | .cmp=>245
 | .sum=>251
 | .term=>255
 | .unary=>256
def t_:Job→Nat
 | .expr=>210
 | .lv v=>V6 v
 | .post=>257
 | .atom=>258
 | .put=>260
 | .param=>206
 | .typ=>207
 | _=>0
def rA (w:World)(ext:List NV):Prop:=∀ x ∈ ext,∀ b,x.2.ownBlock=some b→w.heap.size≤b
theorem rA.nil (w:World):rA w []:=fun x h=>by cases h
theorem rA.append {w:World}{a b:List NV}(h:rA w a)(k:rA w b):rA w (a ++ b):=fun x hx=>by
 rcases List.mem_append.1 hx with hx | hx
 ·exact h x hx
 ·exact k x hx
theorem rA.mono {w w':World}{a:List NV}(h:rA w' a)(hs:w.heap.size≤w'.heap.size):rA w a:=fun x hx b hb=>Nat.le_trans hs (h x hx b hb)
theorem rA.one {w:World}{n:Nd}{v:Value}(h:∀ b,v.ownBlock=some b→w.heap.size≤b):rA w [(n,v)]:=fun x hx b hb=>by
 rw [List.mem_singleton.1 hx] at hb;exact h b hb
section
variable (g:Nat) (tv:Value) (l:List Tok) (en:Int) (iv:Value)
structure At (w:World) (xs:List NV) (nv:Value) (k:Nat) (ns:List Nd) (w':World) (ext:List NV) (eO:Value):Prop where
 ns:aA (xs ++ ext)=ns
 ps:PS g tv l en iv w' k (xs ++ ext) eO
 mv:Mv g nv.ownBlock w eO.ownBlock w'
 fresh:rA w ext
def aR (w:World)(xs:List NV)(nv:Value)(r:j6)(e:Ending)(w':World):Prop :=
 match r with
 | .ok ks k ns=>e=.returned (.int .i64 (hd ks))∧∃ ext eO,At g tv l en iv w xs nv k ns w' ext eO
 | .bad k=>e=aI l en k∧Below g w w'
def tQ (w:World)(xs:List NV)(nv:Value)(r:j6)(e:Ending)(w':World):Prop :=
 match r with
 | .ok ks k ns=>∃ v ext eO,e=.returned v∧w'.ownsRow w.heap.size 3 1 v ks.length (intCells ks)∧At g tv l en iv w xs nv k ns w' ext eO∧∀ x ∈ ext,x.2.ownBlock=none∨x.2.ownBlock ≠ v.ownBlock
 | .bad k=>e=aI l en k∧Below g w w'
variable {g tv l en iv}
theorem aR.ok {w w':World}{xs ext:List NV}{nv eO:Value}{ks:List Int}{k:Nat}{ns:List Nd}{e:Ending}(he:e=.returned (.int .i64 (hd ks)))(ha:At g tv l en iv w xs nv k ns w' ext eO):aR g tv l en iv w xs nv (.ok ks k ns) e w':=⟨he,ext,eO,ha⟩
theorem aR.bad {w w':World}{xs:List NV}{nv:Value}{k:Nat}{e:Ending}(he:e=aI l en k)(ha:Below g w w'):aR g tv l en iv w xs nv (.bad k) e w':=⟨he,ha⟩
theorem tQ.bad {w w':World}{xs:List NV}{nv:Value}{k:Nat}{e:Ending}(he:e=aI l en k)(ha:Below g w w'):tQ g tv l en iv w xs nv (.bad k) e w':=⟨he,ha⟩
variable (g tv l en iv)
def IC (m:Nat)(j:Job):Prop:=∀ (w:World) (k:Nat) (xs:List NV) (nv:Value) (r:j6),PS g tv l en iv w k xs nv→k≤l.length→xs.length≤k→Wf (aA xs)→run l en m j k (aA xs)=some r →
 Calls Tryz.prog (t_ j) #[.pointer (some ⟨g,0,none⟩)] w (aR g tv l en iv w xs nv r)
def LC (m:Nat)(e:El):Prop:=∀ (w:World) (k:Nat) (xs:List NV) (nv:Value) (r:j6),PS g tv l en iv w k xs nv→k≤l.length→xs.length≤k→Wf (aA xs)→run l en m (.list e) k (aA xs)=some r →
 Calls Tryz.prog 205 #[.pointer (some ⟨g,0,none⟩),.func (.func (elFn e)) #[] #[]] w (tQ g tv l en iv w xs nv r)
variable {g tv l en iv}
theorem At.refl {w:World}{k:Nat}{xs:List NV}{nv:Value}(h:PS g tv l en iv w k xs nv):At g tv l en iv w xs nv k (aA xs) w [] nv :=
 ⟨by simp,by simpa using h,Mv.refl,rA.nil _⟩
theorem At.trans {w w1 w2:World}{xs ext ext2:List NV}{nv gW Qu:Value}{k1 k2:Nat}{aJ fF:List Nd}(h:At g tv l en iv w xs nv k1 aJ w1 ext gW)(h2:At g tv l en iv w1 (xs ++ ext) gW k2 fF w2 ext2 Qu):At g tv l en iv w xs nv k2 fF w2 (ext ++ ext2) Qu :=
 ⟨by rw [← List.append_assoc];exact h2.ns,by rw [← List.append_assoc];exact h2.ps,h.mv.trans h2.mv,h.fresh.append (h2.fresh.mono h.mv.size)⟩
theorem At.step {w w1 w2:World}{xs ext:List NV}{nv gW:Value}{k1 k2:Nat}{aJ:List Nd}(h:At g tv l en iv w xs nv k1 aJ w1 ext gW)(p:PS g tv l en iv w2 k2 (xs ++ ext) gW)(m:Mv g gW.ownBlock w1 gW.ownBlock w2):At g tv l en iv w xs nv k2 aJ w2 ext gW :=
 ⟨h.ns,p,h.mv.trans m,h.fresh⟩
theorem At.add {w w1 w2:World}{xs ext:List NV}{nv gW Qu:Value}{k1:Nat}{aJ:List Nd}{n:Nd}{v:Value}(h:At g tv l en iv w xs nv k1 aJ w1 ext gW)(p:PS g tv l en iv w2 k1 ((xs ++ ext) ++ [(n,v)]) Qu)(m:Mv g gW.ownBlock w1 Qu.ownBlock w2)(hf:∀ b,v.ownBlock=some b→w.heap.size≤b) :
  At g tv l en iv w xs nv k1 (aJ ++ [n]) w2 (ext ++ [(n,v)]) Qu :=
 ⟨by rw [← List.append_assoc,nY,h.ns];rfl,by rw [← List.append_assoc];exact p,h.mv.trans m,h.fresh.append (rA.one hf)⟩
theorem At.low {w w1:World}{xs ext:List NV}{nv gW:Value}{k k1:Nat}{aJ:List Nd}(h:PS g tv l en iv w k xs nv)(a:At g tv l en iv w xs nv k1 aJ w1 ext gW):Below g w w1:=h.low a.mv
theorem At.len {w w1:World}{xs ext:List NV}{nv gW:Value}{k1:Nat}{aJ:List Nd}(h:At g tv l en iv w xs nv k1 aJ w1 ext gW):(xs ++ ext).length=aJ.length:=by rw [← aD,h.ns]
def nG (g n:Nat)(w:World):Nat:=n - (intOf ((w.cell? ⟨g,2,none⟩).getD undef)).toNat
theorem PS.nG {w:World}{k n:Nat}{xs:List NV}{nv:Value}(h:PS g tv l en iv w k xs nv):nG g n w=n - k:=by
 have e:w.cell? ⟨g,2,none⟩=some (.int .i64 k):=h.blk.cell 2;unfold Go.Proofs.YthepmkjggfijoaaGreatDoor.nG;rw [e];simp [intOf]
end
section
variable {g:Nat} {tv:Value} {l:List Tok} {en:Int} {iv:Value}
theorem At.below {w w1 w2:World}{xs ext:List NV}{nv gW:Value}{k1:Nat}{aJ:List Nd}(h:At g tv l en iv w xs nv k1 aJ w1 ext gW)(hb:Below w1.heap.size w1 w2):At g tv l en iv w xs nv k1 aJ w2 ext gW :=
 ⟨h.ns,h.ps.below hb,h.mv.aL hb,h.fresh⟩
theorem At.alloc {w w1:World}{xs ext:List NV}{nv gW:Value}{k1:Nat}{aJ:List Nd}(h:At g tv l en iv w xs nv k1 aJ w1 ext gW)(o:Obj):At g tv l en iv w xs nv k1 aJ (w1.alloc o) ext gW:=h.below ((Below.refl _ _).alloc (aaJ _) o)
theorem At.drew {w w1:World}{xs ext:List NV}{nv gW:Value}{k1:Nat}{aJ:List Nd}(h:At g tv l en iv w xs nv k1 aJ w1 ext gW):At g tv l en iv w xs nv k1 aJ w1.drew ext gW:=h.below (Below.drew (Below.refl _ _))
theorem At.from_ {w w1:World}{o:Obj}{xs ext:List NV}{nv gW:Value}{k1:Nat}{aJ:List Nd}(h:At g tv l en iv (w.alloc o) xs nv k1 aJ w1 ext gW):At g tv l en iv w xs nv k1 aJ w1 ext gW :=
 ⟨h.ns,h.ps,(Mv.dD Mv.refl).trans h.mv,h.fresh.mono (by simp)⟩
theorem Far.mv {w w1:World}{k:Nat}{xs:List NV}{nv:Value}{r1:Option Nat}(h:PS g tv l en iv w k xs nv)(m:Mv g nv.ownBlock w r1 w1){b:Nat}{T:TypeId}{cs:Array Value}(hb:aC w b T cs)(hg:g ≠ b)(hr:nv.ownBlock ≠ some b):aC w1 b T cs∧r1 ≠ some b :=
 ⟨m.blk hb (Ne.symm hg) (Ne.symm hr),Ne.symm (m.ne hb.lt (Ne.symm hr))⟩
theorem PS.tag {w:World}{k:Nat}{xs:List NV}{nv:Value}(h:PS g tv l en iv w k xs nv){b:Nat}{T:TypeId}{cs:Array Value}(hb:aC w b T cs)(h1:T ≠ 107)(h2:T ≠ 50):b ≠ g∧some b ≠ nv.ownBlock :=
 ⟨hb.ne_ h.blk h1,fun e=>aT h.own hb (Ne.symm h2) e.symm⟩
theorem PS.aU {w w':World}{k:Nat}{xs:List NV}{nv:Value}(h:PS g tv l en iv w k xs nv){row:Option Nat}(m:Mv g nv.ownBlock w row w'){b:Nat}{T:TypeId}{cs:Array Value}(hb:aC w b T cs)(h1:T ≠ 107:=by decide)(h2:T ≠ 50:=by decide):aC w' b T cs :=
 m.blk hb (h.tag hb h1 h2).1 (h.tag hb h1 h2).2
theorem At.blk {w1 w2:World}{xs ext:List NV}{nv gW:Value}{k k1:Nat}{aJ:List Nd}(h:At g tv l en iv w1 xs nv k1 aJ w2 ext gW)(p:PS g tv l en iv w1 k xs nv){b:Nat}{T:TypeId}{cs:Array Value}(hb:aC w1 b T cs)(h1:T ≠ 107)(h2:T ≠ 50):aC w2 b T cs :=
 h.mv.blk hb (p.tag hb h1 h2).1 (p.tag hb h1 h2).2
theorem PS.jd {w:World}{k:Nat}{xs:List NV}{nv:Value}(h:PS g tv l en iv w k xs nv){b c:Nat}{es:Array MapEntry}(hb:w.heap[b]? = some (.map es c)):b ≠ g∧some b ≠ nv.ownBlock:=by
 constructor
 ·rintro rfl
  have:=h.blk;unfold aC at this;rw [hb] at this;cases this
 ·intro e;rcases h.own.2 with ⟨hv,_⟩ | ⟨b',cap,cur,hv,_,hh,_⟩
  ·rw [hv] at e;simp [Value.ownBlock] at e
  ·rw [hv] at e;simp [Value.ownBlock] at e
   rw [← e,hb] at hh;cases hh
theorem At.map {w1 w2:World}{xs ext:List NV}{nv gW:Value}{k k1:Nat}{aJ:List Nd}(h:At g tv l en iv w1 xs nv k1 aJ w2 ext gW)(p:PS g tv l en iv w1 k xs nv){b c:Nat}{es:Array MapEntry}(hb:w1.heap[b]? = some (.map es c)):w2.heap[b]? = some (.map es c) :=
 (h.mv.block b (aaG.1 hb).1 (p.jd hb).1 (p.jd hb).2).trans hb
theorem nN {n k:Nat}{v:Lv}{a:Int}{ns:List Nd}(h:fB v (tx l k)=0):run l en (n+1) (.tail v a) k ns=some (.ok [a] k ns):=by rw [run,if_pos h]
theorem qM {n k : Nat} {v : Lv} {a : Int} {ns : List Nd} (h : ¬ fB v (tx l k) = 0) : run l en (n + 1) (.tail v a) k ns = thn (run l en n (.lv v.below) (k + 1) ns) fun b k1 aJ => thn (add ⟨fB v (tx l k), [], 0, [a, hd b], pl l en k⟩ k1 aJ) fun c k2 fF =>
      if v=.cmp then some (.ok [hd c] k2 fF) else run l en n (.tail v (hd c)) k2 fF:=by rw [run,if_neg h]
end
theorem gB (g:Nat)(tv:Value)(l:List Tok)(en:Int)(iv:Value)(n:Nat)(K:Nat)(oa ob:Value)(p:Int)(x:Bs)(N:Int)(kv:Value)(kids:List Int)(w:World)(k:Nat)(xs:List NV)(nv:Value)(h:PS g tv l en iv w k xs nv)(Mi:cB w kv kids)(hN:xs.length=n)(hn:n≤1000000) :
  Calls Tryz.prog 204 #[.pointer (some ⟨g,0,none⟩),.int .u8 K,.agg #[oa,ob,.int .i64 p],.string (aM x),.int .i64 N,kv] w fun e w'=>e=.returned (.int .i64 (n:Nat))∧∃ eO,PS g tv l en iv w' k (xs ++ [(⟨K,x,N,kids,p⟩,kv)]) eO∧Mv g nv.ownBlock w eO.ownBlock w':=by
 subst hN;exact add_any g tv l en iv K oa ob p x N kv kids w k xs nv h Mi hn
inductive Nth:List Oper→Nat→Oper→Prop
 | z {o:Oper} {r:List Oper}:Nth (o :: r) 0 o
 | s {a o:Oper} {r:List Oper} {n:Nat} (h:Nth r n o):Nth (a :: r) (n+1) o
theorem Nth.get {l:List Oper}{i:Nat}{o:Oper}(h:Nth l i o):l.toArray[i]? = some o:=by
 induction h with
 | z=>rfl
 | s _ ih=>simpa using ih
theorem lY {P:Program}{md:Region.Mode}{l:List Oper}{Q:Exit→Act→World→Prop}{S:World→Prop}{i:Nat}{oi:Oper}{fuel:Nat}{listed:Array Bool}{a:Act}{w:World}(hi:Nth l i oi)
  (hs:Region.noSelect l.toArray=true) (hf:Region.free md l.toArray listed i=true) (hr:(Region.ready md l.toArray listed).contains i=true) {v:Value}
  (hQ:∀ c a w,Q (.panic c) (a.put oi.dst v) w→Q (.panic c) a w) (hy:Region.wanted oi (yielded l.toArray a.tmps)=true∧∀ w,S w→(execOp a.eval oi).run P w=.ok (.value v) w) (hS:S w)
  (h:wpAnyH P md l.toArray Q S fuel (listed.setIfInBounds i true) (a.put oi.dst v) w):wpAnyH P md l.toArray Q S (fuel+1) listed a w :=
 wpAnyH_take hi.get hs hf hr hQ (Or.inl hy) hS h
theorem bf {P:Program}{md:Region.Mode}{l:List Oper}{Q:Exit→Act→World→Prop}{S:World→Prop}{oi:Oper}{fuel:Nat}{listed:Array Bool}{a:Act}{w:World}(i:Nat)(hi:l[i]? = some oi){v:Value}(hS:S w)
  (h:wpAnyH P md l.toArray Q S fuel (listed.setIfInBounds i true) (a.put oi.dst v) w) (hy:Region.wanted oi (yielded l.toArray a.tmps)=true:=by rfl)
  (hv:∀ w,S w→(execOp a.eval oi).run P w=.ok (.value v) w:=by intro w0 hSw;(try dsimp only at hSw);go_split_ands;go_simp;try with_reducible rfl)
  (hs:Region.noSelect l.toArray=true:=by kernel_rfl) (hf:Region.free md l.toArray listed i=true:=by kernel_rfl) (hr:(Region.ready md l.toArray listed).contains i=true:=by kernel_rfl)
  (hQ:∀ c a w,Q (.panic c) (a.put oi.dst v) w→Q (.panic c) a w:=by exact fun _ _ _ h=>h):wpAnyH P md l.toArray Q S (fuel+1) listed a w :=
 wpAnyH_take (by simpa using hi) hs hf hr hQ (Or.inl ⟨hy,hv⟩) hS h
theorem fJ {P:Program}{md:Region.Mode}{l:List Oper}{Q:Exit→Act→World→Prop}{S:World→Prop}{i:Nat}{oi:Oper}{fuel:Nat}{listed:Array Bool}{a:Act}{w:World}(hi:Nth l i oi)
  (h:∀ K':Act→World→Prop,Shut (∀ a w,S w→(S w→wpAnyH P md l.toArray Q S fuel (listed.setIfInBounds i true) a w)→K' a w)→if Region.wanted oi (yielded l.toArray a.tmps)=true then Oper.wp P oi a w K' Q else K' (a.put oi.dst undef) w) :
  AllReadyH P md l.toArray Q S fuel listed a w [i]:=AllReadyH.cons hi.get h AllReadyH.nil
theorem Wv {P:Program}{md:Region.Mode}{l:List Oper}{Q:Exit→Act→World→Prop}{S:World→Prop}{i j:Nat}{oi oj:Oper}{fuel:Nat}{listed:Array Bool}{a:Act}{w:World}(hi:Nth l i oi)(hj:Nth l j oj)
  (h:∀ K':Act→World→Prop,Shut (∀ a w,S w→(S w→wpAnyH P md l.toArray Q S fuel (listed.setIfInBounds i true) a w)→K' a w)→if Region.wanted oi (yielded l.toArray a.tmps)=true then Oper.wp P oi a w K' Q else K' (a.put oi.dst undef) w)
  (h2:∀ K':Act→World→Prop,Shut (∀ a w,S w→(S w→wpAnyH P md l.toArray Q S fuel (listed.setIfInBounds j true) a w)→K' a w)→if Region.wanted oj (yielded l.toArray a.tmps)=true then Oper.wp P oj a w K' Q else K' (a.put oj.dst undef) w) :
  AllReadyH P md l.toArray Q S fuel listed a w [i,j]:=AllReadyH.cons hi.get h (AllReadyH.cons hj.get h2 AllReadyH.nil)
theorem ug (w:World)(a b:Int):cB (w.alloc (.cells #[.int .i64 a,.int .i64 b] 3)) (.slice (some ⟨w.heap.size,0,none⟩) 2 2) [a,b]:=World.ownsRow_lit w _ 2 (aaL _) (by simp [maxLen]) rfl
theorem rH (w:World)(a:Int):cB (w.alloc (.cells #[.int .i64 a] 3)) (.slice (some ⟨w.heap.size,0,none⟩) 1 1) [a]:=World.ownsRow_lit w _ 1 (aaL _) (by simp [maxLen]) rfl
theorem VX (w:World)(a b c:Int):cB (w.alloc (.cells #[.int .i64 a,.int .i64 b,.int .i64 c] 3)) (.slice (some ⟨w.heap.size,0,none⟩) 3 3) [a,b,c]:=World.ownsRow_lit w _ 3 (aaL _) (by simp [maxLen]) rfl
def ents:Lv→List (Bs × Value)
 | .or=>[([111,114],.int .u8 18)]
 | .and=>[([97,110,100],.int .u8 17)]
 | .cmp=>[([61,61],.int .u8 11),([33,61],.int .u8 12),([60],.int .u8 13),([60,61],.int .u8 14),([62],.int .u8 15),([62,61],.int .u8 16)]
 | .sum=>[([43],.int .u8 6),([45],.int .u8 7)]
 | .term=>[([42],.int .u8 8),([47],.int .u8 9),([37],.int .u8 10)]
 | _=>[]
theorem ents_op (v:Lv)(x:Bs):(sW x (ents v)).getD (.int .u8 0)=.int .u8 (fB v x:Nat):=by
 cases v <;> simp only [ents,sW,fB] <;> (repeat' split) <;> rfl
theorem zero_u8 (w:World):(zeroValue 5).run Tryz.prog w=.ok (.int .u8 0) w:=by kernel_rfl
theorem zero_int (w:World):(zeroValue 3).run Tryz.prog w=.ok (.int .i64 0) w:=by kernel_rfl
theorem vv (w:World)(v:Lv)(m c:Nat)(hm:w.heap[m]? = some (.map (jF (ents v) 0).toArray c))(x:Bs):(Instr.lookup 217 (.map (some m)) (.string (aM x)) false).run Tryz.prog w=.ok (.int .u8 (fB v x:Nat)) w:=by
 have h:=Ic 217 5 (.int .u8 0) Tryz.underlying217 w (zero_u8 w) (ents v) m c hm x false;rw [h,ents_op];rfl
end Go.Proofs.YthepmkjggfijoaaGreatDoor
namespace Go.Proofs.YthepmkjggfijoaaGreatDoor
open Go.RowKit Mist
section
variable {g:Nat} {tv:Value} {l:List Tok} {en:Int} {iv:Value} {w w1 w2:World} {k:Nat} {xs:List NV} {nv:Value}
theorem tQ.ok {w':World}{ext:List NV}{eO v:Value}{ks:List Int}{ns:List Nd}{e:Ending}(he:e=.returned v)(ho:w'.ownsRow w.heap.size 3 1 v ks.length (intCells ks))(ha:At g tv l en iv w xs nv k ns w' ext eO)(hn:∀ x ∈ ext,x.2.ownBlock=none∨x.2.ownBlock ≠ v.ownBlock) :
  tQ g tv l en iv w xs nv (.ok ks k ns) e w':=⟨v,ext,eO,he,ho,ha,hn⟩
theorem PS.iI (h:PS g tv l en iv w k xs nv){r1:Option Nat}(m:Mv g nv.ownBlock w r1 w1){base e s n:Nat}{v:Value}{ys:List Value}(ho:w.ownsRow base e s v n ys)(h1:e ≠ 107)(h2:e ≠ 50):w1.ownsRow base e s v n ys :=
 m.row ho (aT ho h.blk h1) (iE ho h.own h2)
theorem PS.Mx {ys:List NV}(h:PS g tv l en iv w k (xs ++ ys) nv){x:NV}(hx:x ∈ ys){b n c:Nat}(hb:w.heap.size≤b):x.2.ownBlock=none∨x.2.ownBlock ≠ (Value.slice (some ⟨b,0,none⟩) n c).ownBlock:=by
 right
 intro e
 have:=(World.ownsRow.lt (h.kids x (List.mem_append_right _ hx)) b (by rw [e];rfl)).2
 omega
theorem Cg {ext:List NV}{x:NV}{v:Value}(h:rA w ext)(hx:x ∈ ext)(hv:∀ b,v.ownBlock=some b→b < w.heap.size):x.2.ownBlock=none∨x.2.ownBlock ≠ v.ownBlock:=by
 rcases h1:x.2.ownBlock with _ | b
 ·exact .inl rfl
 ·right
  intro e
  have:=h x hx b h1
  have:=hv b e.symm
  omega
theorem Mv.fgrown {r0 r1 row:Option Nat}(h:Mv g r0 w r1 w1)(hg:w1.grownBy w2 row)(hr:∀ b,row=some b→w.heap.size≤b):Mv g r0 w r1 w2 :=
 ⟨hg.os.trans h.os,hg.tape.trans h.tape,hg.output.trans h.output,Nat.le_trans h.size hg.size,fun b hb h1 h2=>(hg.block b (aaW hb h.size) (fun e=>by have:=hr b e.symm;omega)).trans (h.block b hb h1 h2),h.tgt⟩
theorem PS.grown (h:PS g tv l en iv w k xs nv){row:Option Nat}(hg:w.grownBy w1 row)(hr:∀ b,row=some b→Far g nv xs b):PS g tv l en iv w1 k xs nv:=by
 have hb:Below g w w1:=(Below.refl _ _).grown hg (aaK h.lt) (fun b hb=>aaK (hr b hb).lt)
 refine⟨h.blk.grown hg (fun e=>by have:=(hr g e.symm).lt;omega),h.own.kept hg ?_,fun x hx=>World.ownsRow.kept (h.kids x hx) hg ?_,h.toks.below hb,rY h.env hb⟩
 ·rcases h1:nv.ownBlock with _ | b
  ·exact .inl rfl
  ·right;intro e;exact (hr b e.symm).row h1
 ·rcases h1:x.2.ownBlock with _ | b
  ·exact .inl rfl
  ·right;intro e;exact (hr b e.symm).kids x hx h1
theorem At.grown {ext:List NV}{gW:Value}{k1:Nat}{aJ:List Nd}{e s n:Nat}{v:Value}{ys:List Value}{o:Obj}(h:At g tv l en iv w xs nv k1 aJ (w1.alloc o) ext gW)(p0:PS g tv l en iv w k xs nv)(ho:w1.ownsRow w.heap.size e s v n ys)(he:e ≠ 50)
  (hg:(w1.alloc o).grownBy w2 v.ownBlock) (hn:∀ x ∈ ext,x.2.ownBlock=none∨x.2.ownBlock ≠ v.ownBlock):At g tv l en iv w xs nv k1 aJ w2 ext gW:=by
 have hlt:∀ b,v.ownBlock=some b→w.heap.size≤b:=fun b hb=>(ho.lt b hb).1
 refine⟨h.ns,h.ps.grown hg (fun b hb=>⟨aaW p0.lt (hlt b hb),fun e2=>?_,fun x hx e2=>?_⟩),h.mv.fgrown hg hlt,h.fresh⟩
 ·rcases iE (ho.alloc o) h.ps.own he with h3 | h3
  ·rw [h3] at hb;cases hb
  ·exact h3 (by rw [hb,e2])
 ·rcases List.mem_append.1 hx with hx | hx
  ·have h4:=World.ownsRow.lt (p0.kids x hx) b e2
   have:=hlt b hb
   omega
  ·rcases hn x hx with h3 | h3
   ·rw [h3] at e2;cases e2
   ·exact h3 (by rw [e2,hb])
end
theorem dO {l:List Tok}{t:Bs}{k:Nat}{f:Option j6}{r:j6}(h:Mist.need l t k f=some r):(tx l k=t∧f=some r)∨(¬ tx l k=t∧r=.bad k):=by
 unfold Mist.need at h
 split at h
 ·rename_i e;exact .inl ⟨e,h⟩
 ·rename_i e;exact .inr ⟨e,(aaP h).symm⟩
theorem gH {l:List Tok}{c:Nat}{k:Nat}{f:Option j6}{r:j6}(h:Mist.bI l c k f=some r):((tg l k).kind=c∧f=some r)∨(¬ (tg l k).kind=c∧r=.bad k):=by
 unfold Mist.bI at h
 split at h
 ·rename_i e;exact .inl ⟨e,h⟩
 ·rename_i e;exact .inr ⟨e,(aaP h).symm⟩
theorem dW {x:Option j6}{f:List Int→Nat→List Nd→Option j6}{r:j6}(h:thn x f=some r):(∃ ks k ns,x=some (.ok ks k ns)∧f ks k ns=some r)∨(∃ k,x=some (.bad k)∧r=.bad k):=by
 cases x with
 | none=>cases h
 | some y =>
  cases y with
  | ok ks k ns=>exact .inl ⟨ks,k,ns,rfl,h⟩
  | bad k=>exact .inr ⟨k,rfl,(aaP h).symm⟩
theorem dV {n:Nd}{k:Nat}{ns:List Nd}{r:j6}(h:Mist.add n k ns=some r):r=.ok [(ns.length:Int)] k (ns ++ [n]):=(aaP h).symm
theorem gG {p:Prop}[Decidable p]{a b:Option j6}{r:j6}(h:(if p then a else b)=some r):(p∧a=some r)∨(¬ p∧b=some r):=by
 split at h
 ·rename_i e;exact .inl ⟨e,h⟩
 ·rename_i e;exact .inr ⟨e,h⟩
def isFn:Job→Bool
 | .expr | .lv _ | .post | .atom | .put | .param | .typ=>true
 | _=>false
end Go.Proofs.YthepmkjggfijoaaGreatDoor
