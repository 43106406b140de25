/-
  A part of the proof.
-/
import Derived.Test.YthepmkjggfijoaaGreatDoorSA
import Derived.Deep.RegionLaw
import Derived.Deep.AppendLies
import Derived.MapKept
import Derived.Deep.RegionHeld3
import Derived.RegionCalls
import Derived.Test.YthepmkjggfijoaaGreatDoorS07
set_option linter.all false
set_option maxRecDepth 100000
set_option maxHeartbeats 2000000
namespace Go.Proofs.YthepmkjggfijoaaGreatDoor
open Go.RowKit Mist
attribute [local go_sem] aj aH aS aB ak
theorem yZ (w:World)(a b:Obj):((w.alloc a).alloc b).heap[w.heap.size+1]? = some b:=by
 have h:=heap_alloc_new (w.alloc a) b;rw [World.size_alloc] at h;exact h
def aI (l:List Tok)(en:Int)(k:Nat):Ending:=.panicked [{ v:=.iface 109 (.agg #[.int .i64 (pl l en k)]),recovered:=false }]
structure PF (l:List Tok):Prop where
 len:l.length≤1000
 kind:∀ t ∈ l,Mist.kind t.text=t.kind
 text:∀ t ∈ l,t.text.length≤2000
theorem PF.tx {l:List Tok}(h:PF l)(k:Nat):(tx l k).length≤2000:=by
 rcases Nat.lt_or_ge k l.length with h1 | h1
 ·exact h.text _ (lN l k h1)
 ·unfold Mist.tx;rw [nS l k h1];simp
section
variable (g:Nat) (tv:Value) (l:List Tok) (en:Int) (iv:Value) (hF:PF l)
include hF
theorem eZ (x:Bs)(y:Mist.kind x=3∨Mist.kind x=4)(w:World)(k:Nat)(xs:List NV)(nv:Value)(h:PS g tv l en iv w k xs nv)(m:k≤l.length)(j:tx l k=x) :
  Calls Tryz.prog 139 #[.pointer (some ⟨g,0,none⟩),.string (aM x)] w fun e n=>e=.returned (jl l en k)∧PS g tv l en iv n (k+1) xs nv∧Mv g nv.ownBlock w nv.ownBlock n:=by
 have H:=O h;clear h;have t:=O (show decide (tx l k=x)=true by simp [j]);clear j;have c:=O (H.o.new (aaJ _));have i:=aC.new w 68 #[.int .u8 0,.string ⟨#[]⟩,.int .i64 0];go_in
 go_wp2_with fail;refine (yw x y g tv l en iv _ k xs nv ((H.o.alloc _).alloc _) m hF.len hF.kind (w.heap.size+1) _ 9 (0,0) (yZ _ _ _) true t.o).mono ?_;rintro e w1⟨rfl,b⟩;have f:=(i.alloc (.cells #[.string (aM x)] 9)).below b (by simp;omega);have u:=O ((((Mv.refl (g:=g) (r0:=nv.ownBlock) (w:=w)).dD (o:=.cells #[.int .u8 0,.string ⟨#[]⟩,.int .i64 0] 68)).dD (o:=.cells #[.string (aM x)] 9)).aL b);have q:=O (((H.o.alloc (.cells #[.int .u8 0,.string ⟨#[]⟩,.int .i64 0] 68)).alloc (.cells #[.string (aM x)] 9)).below b);clear b i;go_wp2_with fail;refine (nO g tv l en iv _ k xs nv q.o m hF.len).mono ?_;rintro e w2⟨rfl,h2,d⟩;have a:=d.blk f (Nat.ne_of_gt c.o.lt) (Ne.symm c.o.row);have A:=O (u.o.trans d);have r:=O h2;clear d h2 f;have B:=a.lt;have r0:=a.cell 0;have r1:=a.cell 1;have r2:=a.cell 2;have C:=a.frozen 0;have D:=a.frozen 1;have E:=a.frozen 2;clear a;go_wp2_with fail;refine bodyPost_ret (v:=jl l en k) (by simp [results,go_sem,jl,r0,r1,r2]) rfl ?_;exact⟨rfl,by (repeat (first | exact r.o | refine PS.far ?_ c.o _ _)),by (repeat (first | exact A.o | refine Mv.kL ?_ (aaJ _)))⟩
theorem gQ (x:Bs)(j:Mist.kind x=3∨Mist.kind x=4)(w:World)(k:Nat)(xs:List NV)(nv:Value)(h:PS g tv l en iv w k xs nv)(d:k≤l.length)(c:¬ tx l k=x) :
  Calls Tryz.prog 139 #[.pointer (some ⟨g,0,none⟩),.string (aM x)] w fun e m=>e=aI l en k∧Below w.heap.size w m:=by
 have H:=O h;clear h;have i:=O (show decide (tx l k=x)=false by simp [c]);clear c;go_in
 go_wp2_with fail;refine (yw x j g tv l en iv _ k xs nv ((H.o.alloc _).alloc _) d hF.len hF.kind (w.heap.size+1) _ 9 (0,0) (yZ _ _ _) false i.o).mono ?_;rintro e w1⟨rfl,a⟩;have f:=O (((H.o.alloc (.cells #[.int .u8 0,.string ⟨#[]⟩,.int .i64 0] 68)).alloc (.cells #[.string (aM x)] 9)).below a);have b:=O ((ah (o:=.cells #[.string (aM x)] 9) (ah (o:=.cells #[.int .u8 0,.string ⟨#[]⟩,.int .i64 0] 68) (Below.refl w.heap.size w) (aaJ _)) (by simp)).trans (a.mono (by simp;omega)));clear a;go_wp2_with fail;refine (sJ g tv l en iv _ k xs nv f.o d hF.len).mono ?_;rintro e w2⟨rfl,a⟩;go_wp2_with fail;exact⟨rfl,rfl,b.o.trans (a.mono b.o.size)⟩
theorem jg (x:Bs)(q:Mist.kind x=3∨Mist.kind x=4)(w:World)(k:Nat)(xs:List NV)(nv:Value)(h:PS g tv l en iv w k xs nv)(c:k≤l.length)(b:tx l k=x) :
  Calls Tryz.prog 208 #[.pointer (some ⟨g,0,none⟩),.string (aM x)] w fun e f=>e=.returned (.bool true)∧PS g tv l en iv f (k+1) xs nv∧Mv g nv.ownBlock w nv.ownBlock f:=by
 have H:=O h;clear h;have m:=O (show decide (tx l k=x)=true by simp [b]);clear b;go_in
 go_wp2_with fail;refine (yw x q g tv l en iv _ k xs nv (H.o.alloc _) c hF.len hF.kind w.heap.size _ 9 (0,0) (heap_alloc_new _ _) true m.o).mono ?_;rintro e w1⟨rfl,a⟩;have n:=O (((Mv.refl (g:=g) (r0:=nv.ownBlock) (w:=w)).dD (o:=.cells #[.string (aM x)] 9)).aL a);have i:=O ((H.o.alloc (.cells #[.string (aM x)] 9)).below a);clear a;go_wp2_with fail;refine (nO g tv l en iv _ k xs nv i.o c hF.len).mono ?_;rintro e w2⟨rfl,h2,d⟩;have r:=O (n.o.trans d);have j:=O h2;clear d h2;go_wp2_with fail;go_ret;exact⟨rfl,j.o,r.o⟩
theorem kN (x:Bs)(i:Mist.kind x=3∨Mist.kind x=4)(w:World)(k:Nat)(xs:List NV)(nv:Value)(h:PS g tv l en iv w k xs nv)(f:k≤l.length)(b:¬ tx l k=x) :
  Calls Tryz.prog 208 #[.pointer (some ⟨g,0,none⟩),.string (aM x)] w fun e j=>e=.returned (.bool false)∧Below w.heap.size w j:=by
 have H:=O h;clear h;have d:=O (show decide (tx l k=x)=false by simp [b]);clear b;go_in
 go_wp2_with fail;refine (yw x i g tv l en iv _ k xs nv (H.o.alloc _) f hF.len hF.kind w.heap.size _ 9 (0,0) (heap_alloc_new _ _) false d.o).mono ?_;rintro e w1⟨rfl,a⟩;have c:=O ((ah (o:=.cells #[.string (aM x)] 9) (Below.refl w.heap.size w) (aaJ _)).trans (a.mono (by simp)));clear a;go_wp2_with fail;go_ret;exact⟨rfl,c.o⟩
theorem OL (c:Nat)(w:World)(k:Nat)(xs:List NV)(nv:Value)(h:PS g tv l en iv w k xs nv)(n:k≤l.length)(m:(tg l k).kind=c) :
  Calls Tryz.prog 220 #[.pointer (some ⟨g,0,none⟩),.int .u8 c] w fun e q=>e=.returned (jl l en k)∧PS g tv l en iv q (k+1) xs nv∧Mv g nv.ownBlock w nv.ownBlock q:=by
 have H:=O h;clear h;have x:(((tg l k).kind:Int) != (c:Int))=false:=by rw [m];simp
 clear m;have d:=O (H.o.new (aaJ _));have j:=aC.new w 68 #[.int .u8 0,.string ⟨#[]⟩,.int .i64 0];have B:=AP;go_in
 go_wp2_with fail;refine (h_ g tv l en iv _ k xs nv (H.o.alloc _) n hF.len).mono ?_;rintro e w1⟨rfl,b⟩;have i:=j.below b (by simp);have u:=O (((Mv.refl (g:=g) (r0:=nv.ownBlock) (w:=w)).dD (o:=.cells #[.int .u8 0,.string ⟨#[]⟩,.int .i64 0] 68)).aL b);have r:=O ((H.o.alloc (.cells #[.int .u8 0,.string ⟨#[]⟩,.int .i64 0] 68)).below b);clear b j;go_wp2_with fail;refine (nO g tv l en iv _ k xs nv r.o n hF.len).mono ?_;rintro e w2⟨rfl,h2,f⟩;have a:=f.blk i (Nat.ne_of_gt d.o.lt) (Ne.symm d.o.row);have y:=O (u.o.trans f);have t:=O h2;clear f h2 i;have A:=a.lt;have r0:=a.cell 0;have r1:=a.cell 1;have r2:=a.cell 2;have C:=a.frozen 0;have D:=a.frozen 1;have E:=a.frozen 2;clear a;go_wp2_with fail;refine bodyPost_ret (v:=jl l en k) (by simp [results,go_sem,jl,r0,r1,r2]) rfl ?_;exact⟨rfl,by (repeat (first | exact t.o | refine PS.far ?_ d.o _ _)),by (repeat (first | exact y.o | refine Mv.kL ?_ (aaJ _)))⟩
theorem Uo (c:Nat)(w:World)(k:Nat)(xs:List NV)(nv:Value)(h:PS g tv l en iv w k xs nv)(d:k≤l.length)(i:¬ (tg l k).kind=c) :
  Calls Tryz.prog 220 #[.pointer (some ⟨g,0,none⟩),.int .u8 c] w fun e m=>e=aI l en k∧Below w.heap.size w m:=by
 have H:=O h;clear h;have j:(((tg l k).kind:Int) != (c:Int))=true:=by simp;omega
 clear i;have n:=AP;go_in
 go_wp2_with fail;refine (h_ g tv l en iv _ k xs nv (H.o.alloc _) d hF.len).mono ?_;rintro e w1⟨rfl,a⟩;have b:=O ((ah (o:=.cells #[.int .u8 0,.string ⟨#[]⟩,.int .i64 0] 68) (Below.refl w.heap.size w) (aaJ _)).trans (a.mono (by simp)));have f:=O ((H.o.alloc (.cells #[.int .u8 0,.string ⟨#[]⟩,.int .i64 0] 68)).below a);clear a;go_wp2_with fail;refine (sJ g tv l en iv _ k xs nv f.o d hF.len).mono ?_;rintro e w2⟨rfl,a⟩;go_wp2_with fail;exact⟨rfl,rfl,b.o.trans (a.mono b.o.size)⟩
theorem lC (w:World)(k:Nat)(xs:List NV)(nv:Value)(h:PS g tv l en iv w k xs nv)(n:k≤l.length)(f:(tg l k).kind=1) :
  Calls Tryz.prog 202 #[.pointer (some ⟨g,0,none⟩)] w fun e i=>e=.returned (jl l en k)∧PS g tv l en iv i (k+1) xs nv∧Mv g nv.ownBlock w nv.ownBlock i:=by
 have H:=O h;clear h;have m:=O f;clear f;have b:=O (H.o.new (aaJ _));have d:=aC.new w 68 #[.int .u8 0,.string ⟨#[]⟩,.int .i64 0];go_in
 go_wp2_with fail;refine (OL g tv l en iv hF 1 _ k xs nv (H.o.alloc _) n m.o).mono ?_;rintro e w2⟨rfl,h2,c⟩;have a:=c.blk d (Nat.ne_of_gt b.o.lt) (Ne.symm b.o.row);have q:=O (((Mv.refl (g:=g) (r0:=nv.ownBlock) (w:=w)).dD (o:=.cells #[.int .u8 0,.string ⟨#[]⟩,.int .i64 0] 68)).trans c);have j:=O h2;clear c h2 d;have r:=a.lt;have r0:=a.cell 0;have r1:=a.cell 1;have r2:=a.cell 2;have t:=a.frozen 0;have u:=a.frozen 1;have x:=a.frozen 2;clear a;unfold jl;go_wp2_with fail;refine bodyPost_ret (v:=jl l en k) (by simp [results,go_sem,jl,r0,r1,r2]) rfl ?_;exact⟨rfl,by (repeat (first | exact j.o | refine PS.far ?_ b.o _ _)),by (repeat (first | exact q.o | refine Mv.kL ?_ (aaJ _)))⟩
theorem mX (w:World)(k:Nat)(xs:List NV)(nv:Value)(h:PS g tv l en iv w k xs nv)(d:k≤l.length)(a:¬ (tg l k).kind=1) :
  Calls Tryz.prog 202 #[.pointer (some ⟨g,0,none⟩)] w fun e f=>e=aI l en k∧Below w.heap.size w f:=by
 have H:=O h;clear h;have b:=O a;clear a;go_in
 go_wp2_with fail;refine (Uo g tv l en iv hF 1 _ k xs nv (H.o.alloc _) d b.o).mono ?_;rintro e w2⟨rfl,c⟩;unfold aI;go_wp2_with fail;exact⟨rfl,rfl,(ah (o:=.cells #[.int .u8 0,.string ⟨#[]⟩,.int .i64 0] 68) (Below.refl w.heap.size w) (aaJ _)).trans (c.mono (by simp))⟩
end
section
variable (g:Nat) (tv:Value) (l:List Tok) (en:Int) (iv:Value)
theorem add_any (K:Nat)(G I:Value)(p:Int)(x:Bs)(N:Int)(F:Value)(b:List Int)(w:World)(k:Nat)(xs:List NV)(nv:Value)(h:PS g tv l en iv w k xs nv)(v:cB w F b)(X:xs.length≤1000000) :
  Calls Tryz.prog 204 #[.pointer (some ⟨g,0,none⟩),.int .u8 K,.agg #[G,I,.int .i64 p],.string (aM x),.int .i64 N,F] w fun e M=>e=.returned (.int .i64 (xs.length:Nat))∧∃ eO,PS g tv l en iv M k (xs ++ [(⟨K,x,N,b,p⟩,F)]) eO∧Mv g nv.ownBlock w eO.ownBlock M:=by
 obtain⟨A,c,rfl⟩:=dh v;obtain⟨U,y,B,C,D⟩:=info_parts rW;have H:=O h;clear h;have P:=O v;clear v;have S:=H.o.lt;have c3:=H.o.blk.cell 3;have V:=H.o.blk.frozen 3;obtain⟨i,f⟩:∃ i,i=b.length:=⟨_,rfl⟩;rw [← f];have q:=O f;clear f;have T:¬ w.heap.size=g:=by omega
 go_in
 go_wp2_with fail
 go_region_law ((refine step_append_lies _ (by rfl) _ _ _ (by rfl) g 50 U _ 5 64 Tryz.underlying23 y B C D rfl (by omega) _ xs.length (iO xs) (by rfl) (((H.o.own.alloc _).alloc _).drew)
                  ⟨w.heap.size+1,0,none⟩ 1 1 (fC (⟨K,x,N,b,p⟩,.slice A i c)) (by rfl) (by rfl) (World.news_of_block (cs:=#[.int .u8 K,.string (aM x),.int .i64 N,.slice A i c,.int .i64 p]) (t:=50) (fr:=(0,0)) (yZ w _ _)) (by intro u L;simp [fC] at L;rcases L with rfl | rfl | rfl | rfl | rfl <;> rfl)
                  (by omega) (by simp only [maxLen];omega) (by omega) (by simp;omega) (w.heap.size+2) (by simp) ?_;intro W cap w1 d a m J;have E:=((H.o.alloc (.cells #[G,I,.int .i64 p] 68)).alloc (.cells #[.int .u8 K,.string (aM x),.int .i64 N,.slice A i c,.int .i64 p] 50)).drew.blk.grown a (fun e=>aT H.o.own H.o.blk (by decide) e.symm);have Q:=E.cell 3;have R:=E.frozen 3;clear E))
 all_goals
  have j:=O a;clear a;have r:=O d;clear d;have n:=O m;clear m;go_wp2;go_ret
  refine⟨by (first | rfl|(congr 2;omega)),_,PS.add ((H.o.alloc (.cells #[G,I,.int .i64 p] 68)).alloc (.cells #[.int .u8 K,.string (aM x),.int .i64 N,.slice A i c,.int .i64 p] 50)).drew j.o r.o (q.o ▸ own_below P.o (Below.drew (ah (ah (Below.refl _ _) (aaJ _)) (by simp)))),?_⟩
  refine Mv.gset ?_;refine Mv.trans (r1:=nv.ownBlock) (Mv.dD (Mv.dD Mv.refl)).Zp (Mv.grown j.o ?_);rcases n.o with e | e
  ·left;rw [e];rfl
  ·right;rw [e];simp [Value.ownBlock]
theorem pY (hF:PF l)(w:World)(k:Nat)(xs:List NV)(nv:Value)(h:PS g tv l en iv w k xs nv)(B:k≤l.length)(d:(tg l k).kind=2) :
  Calls Tryz.prog 209 #[.pointer (some ⟨g,0,none⟩)] w fun e t=>e=.returned (.tuple #[jl l en k,.int .i64 (numOf (tx l k):Nat)])∧PS g tv l en iv t (k+1) xs nv∧Mv g nv.ownBlock w nv.ownBlock t:=by
 have H:=O h;clear h;have y:=O (mY (tx l k) (by unfold tx;rw [hF.kind _ (lN l k (fA d (by simp))),d]));have x:=O d;clear d;have j:=O (H.o.new (aaJ _));have r:=aC.new w 68 #[.int .u8 0,.string ⟨#[]⟩,.int .i64 0];go_in
 go_wp2_with fail;refine (OL g tv l en iv hF 2 _ k xs nv (H.o.alloc _) B x.o).mono ?_;rintro e w2⟨rfl,h2,n⟩;have i:=n.blk r (Nat.ne_of_gt j.o.lt) (Ne.symm j.o.row);have E:=O (((Mv.refl (g:=g) (r0:=nv.ownBlock) (w:=w)).dD (o:=.cells #[.int .u8 0,.string ⟨#[]⟩,.int .i64 0] 68)).trans n);have q:=O h2;have m:=aC.new w2 68 #[.int .u8 (tg l k).kind,.string (aM (tx l k)),.int .i64 (pl l en k)];have c:=i.alloc (.cells #[.int .u8 (tg l k).kind,.string (aM (tx l k)),.int .i64 (pl l en k)] 68);have C:=i.lt;clear n h2 r i;unfold jl;go_wp2_with fail;refine (Sk (tx l k) _ ((q.o.alloc (.cells #[.int .u8 (tg l k).kind,.string (aM (tx l k)),.int .i64 (pl l en k)] 68)).envw) (by have:=hF.tx k;omega)).mono ?_;rintro e K⟨rfl,b⟩;rw [y.o];have a:=c.below b c.lt;have f:=m.below b m.lt;have u:=O ((q.o.alloc (.cells #[.int .u8 (tg l k).kind,.string (aM (tx l k)),.int .i64 (pl l en k)] 68)).below b);have A:=O ((E.o.dD (o:=.cells #[.int .u8 (tg l k).kind,.string (aM (tx l k)),.int .i64 (pl l en k)] 68)).aL b);have F:=c.lt;have D:¬ w2.heap.size=w.heap.size:=by omega
 clear b c m;have r0:=a.cell 0;have r1:=a.cell 1;have r2:=a.cell 2;have L:=a.frozen 0;have M:=a.frozen 1;have N:=a.frozen 2;have G:=f.cell 0;have I:=f.cell 1;have J:=f.cell 2;clear a f;go_wp2_with fail;refine bodyPost_ret (v:=.tuple #[jl l en k,.int .i64 (numOf (tx l k):Nat)]) (by simp [results,go_sem,jl,r0,r1,r2]) rfl ?_;exact⟨rfl,by (repeat (first | exact u.o | refine PS.far ?_ j.o _ _)),by (repeat (first | exact A.o | refine Mv.kL ?_ (aaJ _)))⟩
theorem vC (hF:PF l)(w:World)(k:Nat)(xs:List NV)(nv:Value)(h:PS g tv l en iv w k xs nv)(d:k≤l.length)(a:¬ (tg l k).kind=2) :
  Calls Tryz.prog 209 #[.pointer (some ⟨g,0,none⟩)] w fun e f=>e=aI l en k∧Below w.heap.size w f:=by
 have H:=O h;clear h;have b:=O a;clear a;go_in
 go_wp2_with fail;refine (Uo g tv l en iv hF 2 _ k xs nv (H.o.alloc _) d b.o).mono ?_;rintro e w2⟨rfl,c⟩;unfold aI;go_wp2_with fail;exact⟨rfl,rfl,(ah (o:=.cells #[.int .u8 0,.string ⟨#[]⟩,.int .i64 0] 68) (Below.refl w.heap.size w) (aaJ _)).trans (c.mono (by simp))⟩
end
def jF:List (Bs × Value)→Nat→List MapEntry
 | [],_=>[]
 | (k,v) :: r,i=>⟨.string (aM k),v,i⟩ :: jF r (i+1)
def sW (x:Bs):List (Bs × Value)→Option Value
 | []=>none
 | (k,v) :: r=>if x=k then some v else sW x r
theorem ofL_beq (x:Bs)(y:Bs):(aM x == aM y)=decide (x=y):=by
 rw [aaI];constructor
 ·intro h
  have:=aB x
  rw [beq_toListBytes] at h
  rw [aB,aB] at h
  simpa using h
 ·intro h;have h:x=y:=by simpa using h
  rw [h,beq_toListBytes];simp
theorem DZ (x:Bs):∀ (l:List (Bs × Value)) (i j:Nat),∃ n,Instr.findNow .string (.string (aM x)) (jF l j) i=some ((sW x l).map fun v=>(n,v))
 | [],i,j=>⟨0,rfl⟩
 | (k,v) :: r,i,j=>by
  simp only [jF,sW,Instr.findNow,Instr.sameNow,ofL_beq];by_cases h:x=k
  ·exact⟨i,by simp [h]⟩
  ·obtain⟨n,a⟩:=DZ x r (i+1) (j+1);exact⟨n,by simp [h,a]⟩
theorem Dc (b:Bool)(s:ByteArray)(w:World):(Instr.checkKey b 10000 9 (.string s)).run Tryz.prog w=.ok () w :=
 MapKept.run_checkKey Tryz.underlying9 (by trivial) b 9999
theorem Ic (T E:TypeId)(z:Value)(a:Tryz.prog.underlying T=some (.map 9 E))(w:World)(h:(zeroValue E).run Tryz.prog w=.ok z w)(l:List (Bs × Value))(m c:Nat)(e:w.heap[m]? = some (.map (jF l 0).toArray c))(x:Bs)(ok:Bool) :
  (Instr.lookup T (.map (some m)) (.string (aM x)) ok).run Tryz.prog w=.ok (if ok then .tuple #[(sW x l).getD z,.bool (sW x l).isSome] else (sW x l).getD z) w:=by
 have d:(getObj m).run Tryz.prog w=.ok (.map (jF l 0).toArray c) w:=MapKept.run_getObj_map e;obtain⟨n,f⟩:=DZ x l 0 0
 have b:(Instr.findKey 9 (.string (aM x)) (jF l 0)).run Tryz.prog w=.ok ((sW x l).map fun v=>(n,v)) w:=by
  simp only [Instr.findKey,Sem.run_bind,run_underlying Tryz.underlying9,Result.andThen_ok,f];rfl
 unfold Instr.lookup;simp only [Sem.run_bind,run_underlying a,Result.andThen_ok,d,Dc,b,Sem.run_pure]
 cases sW x l with
 | none =>
  simp only [Option.map_none,Sem.run_bind,h,Result.andThen_ok,Sem.run_pure]
  cases ok <;> rfl
 | some v =>
  simp only [Option.map_some,Sem.run_pure,Result.andThen_ok]
  cases ok <;> rfl
theorem heap_put (w:World)(o a:Obj):(w.alloc o).heap.setIfInBounds w.heap.size a=(w.alloc a).heap:=by
 show (w.heap.push o).setIfInBounds w.heap.size a=w.heap.push a
 ext i h1 h2
 ·simp
 ·rw [Array.getElem_setIfInBounds]
  ·rw [Array.getElem_push,Array.getElem_push];split
   ·rename_i h;subst h;simp
   ·split <;> first | rfl|(simp at h2;omega)
  ·simpa using h1
theorem Px:∀ (l:List (Bs × Value)) (k:Bs) (v:Value) (i:Nat),jF (l ++ [(k,v)]) i=jF l i ++ [⟨.string (aM k),v,i+l.length⟩]
 | [],_,_,_=>rfl
 | (a,b) :: r,k,v,i=>by
  simp only [List.cons_append,jF,Px r k v (i+1),List.length_cons];rw [show i+1+r.length=i+(r.length+1) by omega]
theorem fM (T E:TypeId)(c:Tryz.prog.underlying T=some (.map 9 E))(w:World)(l:List (Bs × Value))(k:Bs)(v:Value)(h:sW k l=none) :
  (Instr.mapUpdate T (.map (some w.heap.size)) (.string (aM k)) v).run Tryz.prog (w.alloc (.map (jF l 0).toArray l.length))=.ok () (w.alloc (.map (jF (l ++ [(k,v)]) 0).toArray (l.length+1))):=by
 have b:(w.alloc (.map (jF l 0).toArray l.length)).heap[w.heap.size]? = some (.map (jF l 0).toArray l.length):=heap_alloc_new w _;have f:(getObj w.heap.size).run Tryz.prog (w.alloc (.map (jF l 0).toArray l.length))=.ok (.map (jF l 0).toArray l.length) (w.alloc (.map (jF l 0).toArray l.length)):=MapKept.run_getObj_map b;obtain⟨n,a⟩:=DZ k l 0 0;rw [h] at a
 have d:(Instr.findKey 9 (.string (aM k)) (jF l 0)).run Tryz.prog (w.alloc (.map (jF l 0).toArray l.length))=.ok none (w.alloc (.map (jF l 0).toArray l.length)):=by
  simp only [Instr.findKey,Sem.run_bind,run_underlying Tryz.underlying9,Result.andThen_ok,a];rfl
 have i:∀ o,(setObj w.heap.size o).run Tryz.prog (w.alloc (.map (jF l 0).toArray l.length))=.ok () (w.alloc o):=by
  intro o;rw [MapKept.run_setObj_map o b,heap_put];rfl
 have e:(jF l 0).toArray.push ⟨.string (aM k),v,l.length⟩=(jF (l ++ [(k,v)]) 0).toArray:=by
  rw [Px];simp
 unfold Instr.mapUpdate;simp only [Sem.run_bind,run_underlying c,Result.andThen_ok,f,Dc,d,i,e]
def elFn:El→Nat
 | .expr=>210
 | .put=>260
 | .param=>206
def V6:Lv→Nat
 | .or=>222
 | .and=>232
 | .not=>238
 | .cmp=>245
 | .sum=>251
 | .term=>255
 | .unary=>256
def t_:Job→Nat
 | .expr=>210
 | .lv v=>V6 v
 | .post=>257
 | .atom=>258
 | .put=>260
 | .param=>206
 | .typ=>207
 | _=>0
def rA (w:World)(ext:List NV):Prop:=∀ x ∈ ext,∀ b,x.2.ownBlock=some b→w.heap.size≤b
theorem rA.nil (w:World):rA w []:=fun x h=>by cases h
theorem rA.append {w:World}{a b:List NV}(h:rA w a)(k:rA w b):rA w (a ++ b):=fun x c=>by
 rcases List.mem_append.1 c with c | c
 ·exact h x c
 ·exact k x c
theorem rA.mono {w c:World}{a:List NV}(h:rA c a)(e:w.heap.size≤c.heap.size):rA w a:=fun x f b d=>Nat.le_trans e (h x f b d)
theorem rA.one {w:World}{n:Nd}{v:Value}(h:∀ b,v.ownBlock=some b→w.heap.size≤b):rA w [(n,v)]:=fun x c b a=>by
 rw [List.mem_singleton.1 c] at a;exact h b a
section
variable (g:Nat) (tv:Value) (l:List Tok) (en:Int) (iv:Value)
structure At (w:World) (xs:List NV) (nv:Value) (k:Nat) (ns:List Nd) (w':World) (ext:List NV) (eO:Value):Prop where
 ns:aA (xs ++ ext)=ns
 ps:PS g tv l en iv w' k (xs ++ ext) eO
 mv:Mv g nv.ownBlock w eO.ownBlock w'
 fresh:rA w ext
def aR (w:World)(xs:List NV)(nv:Value)(r:j6)(e:Ending)(w':World):Prop :=
 match r with
 | .ok ks k ns=>e=.returned (.int .i64 (hd ks))∧∃ ext eO,At g tv l en iv w xs nv k ns w' ext eO
 | .bad k=>e=aI l en k∧Below g w w'
def tQ (w:World)(xs:List NV)(nv:Value)(r:j6)(e:Ending)(w':World):Prop :=
 match r with
 | .ok ks k ns=>∃ v ext eO,e=.returned v∧w'.ownsRow w.heap.size 3 1 v ks.length (intCells ks)∧At g tv l en iv w xs nv k ns w' ext eO∧∀ x ∈ ext,x.2.ownBlock=none∨x.2.ownBlock ≠ v.ownBlock
 | .bad k=>e=aI l en k∧Below g w w'
variable {g tv l en iv}
theorem aR.ok {w a:World}{xs ext:List NV}{nv eO:Value}{ks:List Int}{k:Nat}{ns:List Nd}{e:Ending}(c:e=.returned (.int .i64 (hd ks)))(b:At g tv l en iv w xs nv k ns a ext eO):aR g tv l en iv w xs nv (.ok ks k ns) e a:=⟨c,ext,eO,b⟩
theorem aR.bad {w a:World}{xs:List NV}{nv:Value}{k:Nat}{e:Ending}(c:e=aI l en k)(b:Below g w a):aR g tv l en iv w xs nv (.bad k) e a:=⟨c,b⟩
theorem tQ.bad {w a:World}{xs:List NV}{nv:Value}{k:Nat}{e:Ending}(c:e=aI l en k)(b:Below g w a):tQ g tv l en iv w xs nv (.bad k) e a:=⟨c,b⟩
variable (g tv l en iv)
def IC (m:Nat)(j:Job):Prop:=∀ (w:World) (k:Nat) (xs:List NV) (nv:Value) (r:j6),PS g tv l en iv w k xs nv→k≤l.length→xs.length≤k→Wf (aA xs)→run l en m j k (aA xs)=some r →
 Calls Tryz.prog (t_ j) #[.pointer (some ⟨g,0,none⟩)] w (aR g tv l en iv w xs nv r)
def LC (m:Nat)(e:El):Prop:=∀ (w:World) (k:Nat) (xs:List NV) (nv:Value) (r:j6),PS g tv l en iv w k xs nv→k≤l.length→xs.length≤k→Wf (aA xs)→run l en m (.list e) k (aA xs)=some r →
 Calls Tryz.prog 205 #[.pointer (some ⟨g,0,none⟩),.func (.func (elFn e)) #[] #[]] w (tQ g tv l en iv w xs nv r)
variable {g tv l en iv}
theorem At.refl {w:World}{k:Nat}{xs:List NV}{nv:Value}(h:PS g tv l en iv w k xs nv):At g tv l en iv w xs nv k (aA xs) w [] nv :=
 ⟨by simp,by simpa using h,Mv.refl,rA.nil _⟩
theorem At.trans {w w1 w2:World}{xs ext a:List NV}{nv d b:Value}{i e:Nat}{f c:List Nd}(h:At g tv l en iv w xs nv i f w1 ext d)(h2:At g tv l en iv w1 (xs ++ ext) d e c w2 a b):At g tv l en iv w xs nv e c w2 (ext ++ a) b :=
 ⟨by rw [← List.append_assoc];exact h2.ns,by rw [← List.append_assoc];exact h2.ps,h.mv.trans h2.mv,h.fresh.append (h2.fresh.mono h.mv.size)⟩
theorem At.step {w w1 w2:World}{xs ext:List NV}{nv a:Value}{d c:Nat}{b:List Nd}(h:At g tv l en iv w xs nv d b w1 ext a)(p:PS g tv l en iv w2 c (xs ++ ext) a)(m:Mv g a.ownBlock w1 a.ownBlock w2):At g tv l en iv w xs nv c b w2 ext a :=
 ⟨h.ns,p,h.mv.trans m,h.fresh⟩
theorem At.add {w w1 w2:World}{xs ext:List NV}{nv e a:Value}{c:Nat}{d:List Nd}{n:Nd}{v:Value}(h:At g tv l en iv w xs nv c d w1 ext e)(p:PS g tv l en iv w2 c ((xs ++ ext) ++ [(n,v)]) a)(m:Mv g e.ownBlock w1 a.ownBlock w2)(f:∀ b,v.ownBlock=some b→w.heap.size≤b) :
  At g tv l en iv w xs nv c (d ++ [n]) w2 (ext ++ [(n,v)]) a :=
 ⟨by rw [← List.append_assoc,nY,h.ns];rfl,by rw [← List.append_assoc];exact p,h.mv.trans m,h.fresh.append (rA.one f)⟩
theorem At.low {w w1:World}{xs ext:List NV}{nv c:Value}{k d:Nat}{b:List Nd}(h:PS g tv l en iv w k xs nv)(a:At g tv l en iv w xs nv d b w1 ext c):Below g w w1:=h.low a.mv
theorem At.len {w w1:World}{xs ext:List NV}{nv b:Value}{c:Nat}{a:List Nd}(h:At g tv l en iv w xs nv c a w1 ext b):(xs ++ ext).length=a.length:=by rw [← aD,h.ns]
def nG (g n:Nat)(w:World):Nat:=n - (intOf ((w.cell? ⟨g,2,none⟩).getD undef)).toNat
theorem PS.nG {w:World}{k n:Nat}{xs:List NV}{nv:Value}(h:PS g tv l en iv w k xs nv):nG g n w=n - k:=by
 have e:w.cell? ⟨g,2,none⟩=some (.int .i64 k):=h.blk.cell 2;unfold Go.Proofs.YthepmkjggfijoaaGreatDoor.nG;rw [e];simp [intOf]
end
section
variable {g:Nat} {tv:Value} {l:List Tok} {en:Int} {iv:Value}
theorem At.below {w w1 w2:World}{xs ext:List NV}{nv b:Value}{d:Nat}{a:List Nd}(h:At g tv l en iv w xs nv d a w1 ext b)(c:Below w1.heap.size w1 w2):At g tv l en iv w xs nv d a w2 ext b :=
 ⟨h.ns,h.ps.below c,h.mv.aL c,h.fresh⟩
theorem At.alloc {w w1:World}{xs ext:List NV}{nv b:Value}{c:Nat}{a:List Nd}(h:At g tv l en iv w xs nv c a w1 ext b)(o:Obj):At g tv l en iv w xs nv c a (w1.alloc o) ext b:=h.below ((Below.refl _ _).alloc (aaJ _) o)
theorem At.drew {w w1:World}{xs ext:List NV}{nv b:Value}{c:Nat}{a:List Nd}(h:At g tv l en iv w xs nv c a w1 ext b):At g tv l en iv w xs nv c a w1.drew ext b:=h.below (Below.drew (Below.refl _ _))
theorem At.from_ {w w1:World}{o:Obj}{xs ext:List NV}{nv b:Value}{c:Nat}{a:List Nd}(h:At g tv l en iv (w.alloc o) xs nv c a w1 ext b):At g tv l en iv w xs nv c a w1 ext b :=
 ⟨h.ns,h.ps,(Mv.dD Mv.refl).trans h.mv,h.fresh.mono (by simp)⟩
theorem Far.mv {w w1:World}{k:Nat}{xs:List NV}{nv:Value}{r1:Option Nat}(h:PS g tv l en iv w k xs nv)(m:Mv g nv.ownBlock w r1 w1){b:Nat}{T:TypeId}{cs:Array Value}(a:aC w b T cs)(d:g ≠ b)(c:nv.ownBlock ≠ some b):aC w1 b T cs∧r1 ≠ some b :=
 ⟨m.blk a (Ne.symm d) (Ne.symm c),Ne.symm (m.ne a.lt (Ne.symm c))⟩
theorem PS.tag {w:World}{k:Nat}{xs:List NV}{nv:Value}(h:PS g tv l en iv w k xs nv){b:Nat}{T:TypeId}{cs:Array Value}(a:aC w b T cs)(h1:T ≠ 107)(h2:T ≠ 50):b ≠ g∧some b ≠ nv.ownBlock :=
 ⟨a.ne_ h.blk h1,fun e=>aT h.own a (Ne.symm h2) e.symm⟩
theorem PS.aU {w c:World}{k:Nat}{xs:List NV}{nv:Value}(h:PS g tv l en iv w k xs nv){row:Option Nat}(m:Mv g nv.ownBlock w row c){b:Nat}{T:TypeId}{cs:Array Value}(a:aC w b T cs)(h1:T ≠ 107:=by decide)(h2:T ≠ 50:=by decide):aC c b T cs :=
 m.blk a (h.tag a h1 h2).1 (h.tag a h1 h2).2
theorem At.blk {w1 w2:World}{xs ext:List NV}{nv d:Value}{k e:Nat}{c:List Nd}(h:At g tv l en iv w1 xs nv e c w2 ext d)(p:PS g tv l en iv w1 k xs nv){b:Nat}{T:TypeId}{cs:Array Value}(a:aC w1 b T cs)(h1:T ≠ 107)(h2:T ≠ 50):aC w2 b T cs :=
 h.mv.blk a (p.tag a h1 h2).1 (p.tag a h1 h2).2
theorem PS.jd {w:World}{k:Nat}{xs:List NV}{nv:Value}(h:PS g tv l en iv w k xs nv){b c:Nat}{i:Array MapEntry}(a:w.heap[b]? = some (.map i c)):b ≠ g∧some b ≠ nv.ownBlock:=by
 constructor
 ·rintro rfl
  have:=h.blk;unfold aC at this;rw [a] at this;cases this
 ·intro e;rcases h.own.2 with ⟨hv,_⟩ | ⟨j,cap,f,hv,_,d,_⟩
  ·rw [hv] at e;simp [Value.ownBlock] at e
  ·rw [hv] at e;simp [Value.ownBlock] at e
   rw [← e,a] at d;cases d
theorem At.map {w1 w2:World}{xs ext:List NV}{nv f:Value}{k i:Nat}{e:List Nd}(h:At g tv l en iv w1 xs nv i e w2 ext f)(p:PS g tv l en iv w1 k xs nv){b c:Nat}{d:Array MapEntry}(a:w1.heap[b]? = some (.map d c)):w2.heap[b]? = some (.map d c) :=
 (h.mv.block b (aaG.1 a).1 (p.jd a).1 (p.jd a).2).trans a
theorem nN {n k:Nat}{v:Lv}{a:Int}{ns:List Nd}(h:fB v (tx l k)=0):run l en (n+1) (.tail v a) k ns=some (.ok [a] k ns):=by rw [run,if_pos h]
theorem qM {n k : Nat} {v : Lv} {a : Int} {ns : List Nd} (h : ¬ fB v (tx l k) = 0) : run l en (n + 1) (.tail v a) k ns = thn (run l en n (.lv v.below) (k + 1) ns) fun b i f => thn (add ⟨fB v (tx l k), [], 0, [a, hd b], pl l en k⟩ i f) fun c e d =>
      if v=.cmp then some (.ok [hd c] e d) else run l en n (.tail v (hd c)) e d:=by rw [run,if_neg h]
end
theorem gB (g:Nat)(tv:Value)(l:List Tok)(en:Int)(iv:Value)(n:Nat)(K:Nat)(c d:Value)(p:Int)(x:Bs)(N:Int)(b:Value)(a:List Int)(w:World)(k:Nat)(xs:List NV)(nv:Value)(h:PS g tv l en iv w k xs nv)(i:cB w b a)(j:xs.length=n)(m:n≤1000000) :
  Calls Tryz.prog 204 #[.pointer (some ⟨g,0,none⟩),.int .u8 K,.agg #[c,d,.int .i64 p],.string (aM x),.int .i64 N,b] w fun e f=>e=.returned (.int .i64 (n:Nat))∧∃ eO,PS g tv l en iv f k (xs ++ [(⟨K,x,N,a,p⟩,b)]) eO∧Mv g nv.ownBlock w eO.ownBlock f:=by
 subst j;exact add_any g tv l en iv K c d p x N b a w k xs nv h i m
inductive Nth:List Oper→Nat→Oper→Prop
 | z {o:Oper} {r:List Oper}:Nth (o :: r) 0 o
 | s {a o:Oper} {r:List Oper} {n:Nat} (h:Nth r n o):Nth (a :: r) (n+1) o
theorem Nth.get {l:List Oper}{i:Nat}{o:Oper}(h:Nth l i o):l.toArray[i]? = some o:=by
 induction h with
 | z=>rfl
 | s _ a=>simpa using a
theorem lY {P:Program}{e:Region.Mode}{l:List Oper}{Q:Exit→Act→World→Prop}{S:World→Prop}{i:Nat}{d:Oper}{b:Nat}{listed:Array Bool}{a:Act}{w:World}(hi:Nth l i d)
  (m:Region.noSelect l.toArray=true) (f:Region.free e l.toArray listed i=true) (j:(Region.ready e l.toArray listed).contains i=true) {v:Value}
  (hQ:∀ c a w,Q (.panic c) (a.put d.dst v) w→Q (.panic c) a w) (hy:Region.wanted d (yielded l.toArray a.tmps)=true∧∀ w,S w→(execOp a.eval d).run P w=.ok (.value v) w) (hS:S w)
  (h:wpAnyH P e l.toArray Q S b (listed.setIfInBounds i true) (a.put d.dst v) w):wpAnyH P e l.toArray Q S (b+1) listed a w :=
 wpAnyH_take hi.get m f j hQ (Or.inl hy) hS h
theorem bf {P:Program}{e:Region.Mode}{l:List Oper}{Q:Exit→Act→World→Prop}{S:World→Prop}{d:Oper}{b:Nat}{listed:Array Bool}{a:Act}{w:World}(i:Nat)(hi:l[i]? = some d){v:Value}(hS:S w)
  (h:wpAnyH P e l.toArray Q S b (listed.setIfInBounds i true) (a.put d.dst v) w) (hy:Region.wanted d (yielded l.toArray a.tmps)=true:=by rfl)
  (hv:∀ w,S w→(execOp a.eval d).run P w=.ok (.value v) w:=by intro w0 f;(try dsimp only at f);go_split_ands;go_simp;try with_reducible rfl)
  (n:Region.noSelect l.toArray=true:=by kernel_rfl) (j:Region.free e l.toArray listed i=true:=by kernel_rfl) (m:(Region.ready e l.toArray listed).contains i=true:=by kernel_rfl)
  (hQ:∀ c a w,Q (.panic c) (a.put d.dst v) w→Q (.panic c) a w:=by exact fun _ _ _ h=>h):wpAnyH P e l.toArray Q S (b+1) listed a w :=
 wpAnyH_take (by simpa using hi) n j m hQ (Or.inl ⟨hy,hv⟩) hS h
theorem fJ {P:Program}{e:Region.Mode}{l:List Oper}{Q:Exit→Act→World→Prop}{S:World→Prop}{i:Nat}{c:Oper}{b:Nat}{listed:Array Bool}{a:Act}{w:World}(hi:Nth l i c)
  (h:∀ d:Act→World→Prop,Shut (∀ a w,S w→(S w→wpAnyH P e l.toArray Q S b (listed.setIfInBounds i true) a w)→d a w)→if Region.wanted c (yielded l.toArray a.tmps)=true then Oper.wp P c a w d Q else d (a.put c.dst undef) w) :
  AllReadyH P e l.toArray Q S b listed a w [i]:=AllReadyH.cons hi.get h AllReadyH.nil
theorem Wv {P:Program}{f:Region.Mode}{l:List Oper}{Q:Exit→Act→World→Prop}{S:World→Prop}{i j:Nat}{d e:Oper}{b:Nat}{listed:Array Bool}{a:Act}{w:World}(hi:Nth l i d)(m:Nth l j e)
  (h:∀ c:Act→World→Prop,Shut (∀ a w,S w→(S w→wpAnyH P f l.toArray Q S b (listed.setIfInBounds i true) a w)→c a w)→if Region.wanted d (yielded l.toArray a.tmps)=true then Oper.wp P d a w c Q else c (a.put d.dst undef) w)
  (h2:∀ c:Act→World→Prop,Shut (∀ a w,S w→(S w→wpAnyH P f l.toArray Q S b (listed.setIfInBounds j true) a w)→c a w)→if Region.wanted e (yielded l.toArray a.tmps)=true then Oper.wp P e a w c Q else c (a.put e.dst undef) w) :
  AllReadyH P f l.toArray Q S b listed a w [i,j]:=AllReadyH.cons hi.get h (AllReadyH.cons m.get h2 AllReadyH.nil)
theorem ug (w:World)(a b:Int):cB (w.alloc (.cells #[.int .i64 a,.int .i64 b] 3)) (.slice (some ⟨w.heap.size,0,none⟩) 2 2) [a,b]:=World.ownsRow_lit w _ 2 (aaL _) (by simp [maxLen]) rfl
theorem rH (w:World)(a:Int):cB (w.alloc (.cells #[.int .i64 a] 3)) (.slice (some ⟨w.heap.size,0,none⟩) 1 1) [a]:=World.ownsRow_lit w _ 1 (aaL _) (by simp [maxLen]) rfl
theorem VX (w:World)(a b c:Int):cB (w.alloc (.cells #[.int .i64 a,.int .i64 b,.int .i64 c] 3)) (.slice (some ⟨w.heap.size,0,none⟩) 3 3) [a,b,c]:=World.ownsRow_lit w _ 3 (aaL _) (by simp [maxLen]) rfl
def ents:Lv→List (Bs × Value)
 | .or=>[([111,114],.int .u8 18)]
 | .and=>[([97,110,100],.int .u8 17)]
 | .cmp=>[([61,61],.int .u8 11),([33,61],.int .u8 12),([60],.int .u8 13),([60,61],.int .u8 14),([62],.int .u8 15),([62,61],.int .u8 16)]
 | .sum=>[([43],.int .u8 6),([45],.int .u8 7)]
 | .term=>[([42],.int .u8 8),([47],.int .u8 9),([37],.int .u8 10)]
 | _=>[]
theorem ents_op (v:Lv)(x:Bs):(sW x (ents v)).getD (.int .u8 0)=.int .u8 (fB v x:Nat):=by
 cases v <;> simp only [ents,sW,fB] <;> (repeat' split) <;> rfl
theorem zero_u8 (w:World):(zeroValue 5).run Tryz.prog w=.ok (.int .u8 0) w:=by kernel_rfl
theorem zero_int (w:World):(zeroValue 3).run Tryz.prog w=.ok (.int .i64 0) w:=by kernel_rfl
theorem vv (w:World)(v:Lv)(m c:Nat)(a:w.heap[m]? = some (.map (jF (ents v) 0).toArray c))(x:Bs):(Instr.lookup 217 (.map (some m)) (.string (aM x)) false).run Tryz.prog w=.ok (.int .u8 (fB v x:Nat)) w:=by
 have h:=Ic 217 5 (.int .u8 0) Tryz.underlying217 w (zero_u8 w) (ents v) m c a x false;rw [h,ents_op];rfl
end Go.Proofs.YthepmkjggfijoaaGreatDoor
namespace Go.Proofs.YthepmkjggfijoaaGreatDoor
open Go.RowKit Mist
section
variable {g:Nat} {tv:Value} {l:List Tok} {en:Int} {iv:Value} {w w1 w2:World} {k:Nat} {xs:List NV} {nv:Value}
theorem tQ.ok {a:World}{ext:List NV}{eO v:Value}{ks:List Int}{ns:List Nd}{e:Ending}(c:e=.returned v)(f:a.ownsRow w.heap.size 3 1 v ks.length (intCells ks))(b:At g tv l en iv w xs nv k ns a ext eO)(d:∀ x ∈ ext,x.2.ownBlock=none∨x.2.ownBlock ≠ v.ownBlock) :
  tQ g tv l en iv w xs nv (.ok ks k ns) e a:=⟨v,ext,eO,c,f,b,d⟩
theorem PS.iI (h:PS g tv l en iv w k xs nv){r1:Option Nat}(m:Mv g nv.ownBlock w r1 w1){base e s n:Nat}{v:Value}{b:List Value}(a:w.ownsRow base e s v n b)(h1:e ≠ 107)(h2:e ≠ 50):w1.ownsRow base e s v n b :=
 m.row a (aT a h.blk h1) (iE a h.own h2)
theorem PS.Mx {a:List NV}(h:PS g tv l en iv w k (xs ++ a) nv){x:NV}(d:x ∈ a){b n c:Nat}(f:w.heap.size≤b):x.2.ownBlock=none∨x.2.ownBlock ≠ (Value.slice (some ⟨b,0,none⟩) n c).ownBlock:=by
 right
 intro e
 have:=(World.ownsRow.lt (h.kids x (List.mem_append_right _ d)) b (by rw [e];rfl)).2
 omega
theorem Cg {ext:List NV}{x:NV}{v:Value}(h:rA w ext)(a:x ∈ ext)(hv:∀ b,v.ownBlock=some b→b < w.heap.size):x.2.ownBlock=none∨x.2.ownBlock ≠ v.ownBlock:=by
 rcases h1:x.2.ownBlock with _ | b
 ·exact .inl rfl
 ·right
  intro e
  have:=h x a b h1
  have:=hv b e.symm
  omega
theorem Mv.fgrown {r0 r1 row:Option Nat}(h:Mv g r0 w r1 w1)(a:w1.grownBy w2 row)(d:∀ b,row=some b→w.heap.size≤b):Mv g r0 w r1 w2 :=
 ⟨a.os.trans h.os,a.tape.trans h.tape,a.output.trans h.output,Nat.le_trans h.size a.size,fun b c h1 h2=>(a.block b (aaW c h.size) (fun e=>by have:=d b e.symm;omega)).trans (h.block b c h1 h2),h.tgt⟩
theorem PS.grown (h:PS g tv l en iv w k xs nv){row:Option Nat}(c:w.grownBy w1 row)(d:∀ b,row=some b→Far g nv xs b):PS g tv l en iv w1 k xs nv:=by
 have a:Below g w w1:=(Below.refl _ _).grown c (aaK h.lt) (fun b a=>aaK (d b a).lt)
 refine⟨h.blk.grown c (fun e=>by have:=(d g e.symm).lt;omega),h.own.kept c ?_,fun x f=>World.ownsRow.kept (h.kids x f) c ?_,h.toks.below a,rY h.env a⟩
 ·rcases h1:nv.ownBlock with _ | b
  ·exact .inl rfl
  ·right;intro e;exact (d b e.symm).row h1
 ·rcases h1:x.2.ownBlock with _ | b
  ·exact .inl rfl
  ·right;intro e;exact (d b e.symm).kids x f h1
theorem At.grown {ext:List NV}{j:Value}{r:Nat}{i:List Nd}{e s n:Nat}{v:Value}{A:List Value}{o:Obj}(h:At g tv l en iv w xs nv r i (w1.alloc o) ext j)(t:PS g tv l en iv w k xs nv)(q:w1.ownsRow w.heap.size e s v n A)(u:e ≠ 50)
  (m:(w1.alloc o).grownBy w2 v.ownBlock) (y:∀ x ∈ ext,x.2.ownBlock=none∨x.2.ownBlock ≠ v.ownBlock):At g tv l en iv w xs nv r i w2 ext j:=by
 have c:∀ b,v.ownBlock=some b→w.heap.size≤b:=fun b a=>(q.lt b a).1
 refine⟨h.ns,h.ps.grown m (fun b a=>⟨aaW t.lt (c b a),fun d=>?_,fun x f d=>?_⟩),h.mv.fgrown m c,h.fresh⟩
 ·rcases iE (q.alloc o) h.ps.own u with h3 | h3
  ·rw [h3] at a;cases a
  ·exact h3 (by rw [a,d])
 ·rcases List.mem_append.1 f with f | f
  ·have h4:=World.ownsRow.lt (t.kids x f) b d
   have:=c b a
   omega
  ·rcases y x f with h3 | h3
   ·rw [h3] at d;cases d
   ·exact h3 (by rw [d,a])
end
theorem dO {l:List Tok}{t:Bs}{k:Nat}{f:Option j6}{r:j6}(h:Mist.need l t k f=some r):(tx l k=t∧f=some r)∨(¬ tx l k=t∧r=.bad k):=by
 unfold Mist.need at h
 split at h
 ·rename_i e;exact .inl ⟨e,h⟩
 ·rename_i e;exact .inr ⟨e,(aaP h).symm⟩
theorem gH {l:List Tok}{c:Nat}{k:Nat}{f:Option j6}{r:j6}(h:Mist.bI l c k f=some r):((tg l k).kind=c∧f=some r)∨(¬ (tg l k).kind=c∧r=.bad k):=by
 unfold Mist.bI at h
 split at h
 ·rename_i e;exact .inl ⟨e,h⟩
 ·rename_i e;exact .inr ⟨e,(aaP h).symm⟩
theorem dW {x:Option j6}{f:List Int→Nat→List Nd→Option j6}{r:j6}(h:thn x f=some r):(∃ ks k ns,x=some (.ok ks k ns)∧f ks k ns=some r)∨(∃ k,x=some (.bad k)∧r=.bad k):=by
 cases x with
 | none=>cases h
 | some y =>
  cases y with
  | ok ks k ns=>exact .inl ⟨ks,k,ns,rfl,h⟩
  | bad k=>exact .inr ⟨k,rfl,(aaP h).symm⟩
theorem dV {n:Nd}{k:Nat}{ns:List Nd}{r:j6}(h:Mist.add n k ns=some r):r=.ok [(ns.length:Int)] k (ns ++ [n]):=(aaP h).symm
theorem gG {p:Prop}[Decidable p]{a b:Option j6}{r:j6}(h:(if p then a else b)=some r):(p∧a=some r)∨(¬ p∧b=some r):=by
 split at h
 ·rename_i e;exact .inl ⟨e,h⟩
 ·rename_i e;exact .inr ⟨e,h⟩
def isFn:Job→Bool
 | .expr | .lv _ | .post | .atom | .put | .param | .typ=>true
 | _=>false
end Go.Proofs.YthepmkjggfijoaaGreatDoor
