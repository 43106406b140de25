/-
  A part of the proof.
-/
import Derived.Deep.RegionHeld3
import Derived.Test.YtalghggmkojblaaGreatDoorS08
set_option linter.all false
set_option maxRecDepth 100000
set_option maxHeartbeats 2000000
namespace Go.Proofs.YtalghggmkojblaaGreatDoor
open Go.RowKit Mist
attribute [local go_sem] ak aN aV aF aj
theorem wI (w:World)(a b:Obj):((w.alloc a).alloc b).heap[w.heap.size+1]? = some b:=by
 have h:=heap_alloc_new (w.alloc a) b;rw [World.size_alloc] at h;exact h
def aY (l:List Tok)(en:Int)(k:Nat):Ending:=.panicked [{ v:=.iface 128 (.agg #[.int .i64 (pl l en k)]),recovered:=false }]
structure PF (l:List Tok):Prop where
 len:l.length≤1000
 kind:∀ t ∈ l,Mist.kind t.text=t.kind
 text:∀ t ∈ l,t.text.length≤2000
theorem PF.tx {l:List Tok}(h:PF l)(k:Nat):(tx l k).length≤2000:=by
 rcases Nat.lt_or_ge k l.length with h1 | h1
 ·exact h.text _ (Md l k h1)
 ·unfold Mist.tx;rw [uJ l k h1];simp
section
variable (g:Nat) (tv:Value) (l:List Tok) (en:Int) (iv:Value) (hF:PF l)
include hF
theorem fO (x:Bs)(A:Mist.kind x=3∨Mist.kind x=4)(w:World)(k:Nat)(xs:List NV)(nv:Value)(h:PS g tv l en iv w k xs nv)(m:k≤l.length)(j:tx l k=x) :
  Calls Tryz.prog 111 #[.pointer (some ⟨g,0,none⟩),.string (aG x)] w fun e n=>e=.returned (jc l en k)∧PS g tv l en iv n (k+1) xs nv∧Mv g nv.ownBlock w nv.ownBlock n:=by
 have H:=O h;clear h;have t:=O (show decide (tx l k=x)=true by simp [j]);clear j;have c:=O (H.o.new (amL _));have i:=bY.new w 112 #[.int .u8 0,.string ⟨#[]⟩,.int .i64 0];go_in
 go_wp2_with fail;refine (vR x A g tv l en iv _ k xs nv ((H.o.alloc _).alloc _) m hF.len hF.kind (w.heap.size+1) _ 9 (0,0) (wI _ _ _) true t.o).mono ?_;rintro e w1⟨rfl,b⟩;have f:=(i.alloc (.cells #[.string (aG x)] 9)).below b (by simp;omega);have u:=O ((((Mv.refl (g:=g) (r0:=nv.ownBlock) (w:=w)).gT (o:=.cells #[.int .u8 0,.string ⟨#[]⟩,.int .i64 0] 112)).gT (o:=.cells #[.string (aG x)] 9)).o_ b);have q:=O (((H.o.alloc (.cells #[.int .u8 0,.string ⟨#[]⟩,.int .i64 0] 112)).alloc (.cells #[.string (aG x)] 9)).below b);clear b i;go_wp2_with fail;refine (tQ g tv l en iv _ k xs nv q.o m hF.len).mono ?_;rintro e C⟨rfl,h2,d⟩;have a:=d.blk f (Nat.ne_of_gt c.o.lt) (Ne.symm c.o.row);have B:=O (u.o.trans d);have r:=O h2;clear d h2 f;have y:=a.lt;have r0:=a.cell 0;have r1:=a.cell 1;have r2:=a.cell 2;have D:=a.frozen 0;have E:=a.frozen 1;have F:=a.frozen 2;clear a;go_wp2_with fail;refine bodyPost_ret (v:=jc l en k) (by simp [results,go_sem,jc,r0,r1,r2]) rfl ?_;exact⟨rfl,by (repeat (first | exact r.o | refine PS.far ?_ c.o _ _)),by (repeat (first | exact B.o | refine Mv.R_ ?_ (amL _)))⟩
theorem iy (x:Bs)(j:Mist.kind x=3∨Mist.kind x=4)(w:World)(k:Nat)(xs:List NV)(nv:Value)(h:PS g tv l en iv w k xs nv)(d:k≤l.length)(c:¬ tx l k=x) :
  Calls Tryz.prog 111 #[.pointer (some ⟨g,0,none⟩),.string (aG x)] w fun e m=>e=aY l en k∧Below w.heap.size w m:=by
 have H:=O h;clear h;have i:=O (show decide (tx l k=x)=false by simp [c]);clear c;go_in
 go_wp2_with fail;refine (vR x j g tv l en iv _ k xs nv ((H.o.alloc _).alloc _) d hF.len hF.kind (w.heap.size+1) _ 9 (0,0) (wI _ _ _) false i.o).mono ?_;rintro e w1⟨rfl,a⟩;have f:=O (((H.o.alloc (.cells #[.int .u8 0,.string ⟨#[]⟩,.int .i64 0] 112)).alloc (.cells #[.string (aG x)] 9)).below a);have b:=O ((aU (o:=.cells #[.string (aG x)] 9) (aU (o:=.cells #[.int .u8 0,.string ⟨#[]⟩,.int .i64 0] 112) (Below.refl w.heap.size w) (amL _)) (by simp)).trans (a.mono (by simp;omega)));clear a;go_wp2_with fail;refine (sU g tv l en iv _ k xs nv f.o d hF.len).mono ?_;rintro e n⟨rfl,a⟩;go_wp2_with fail;exact⟨rfl,rfl,b.o.trans (a.mono b.o.size)⟩
theorem jT (x:Bs)(q:Mist.kind x=3∨Mist.kind x=4)(w:World)(k:Nat)(xs:List NV)(nv:Value)(h:PS g tv l en iv w k xs nv)(c:k≤l.length)(b:tx l k=x) :
  Calls Tryz.prog 172 #[.pointer (some ⟨g,0,none⟩),.string (aG x)] w fun e f=>e=.returned (.bool true)∧PS g tv l en iv f (k+1) xs nv∧Mv g nv.ownBlock w nv.ownBlock f:=by
 have H:=O h;clear h;have m:=O (show decide (tx l k=x)=true by simp [b]);clear b;go_in
 go_wp2_with fail;refine (vR x q g tv l en iv _ k xs nv (H.o.alloc _) c hF.len hF.kind w.heap.size _ 9 (0,0) (heap_alloc_new _ _) true m.o).mono ?_;rintro e w1⟨rfl,a⟩;have n:=O (((Mv.refl (g:=g) (r0:=nv.ownBlock) (w:=w)).gT (o:=.cells #[.string (aG x)] 9)).o_ a);have i:=O ((H.o.alloc (.cells #[.string (aG x)] 9)).below a);clear a;go_wp2_with fail;refine (tQ g tv l en iv _ k xs nv i.o c hF.len).mono ?_;rintro e t⟨rfl,h2,d⟩;have r:=O (n.o.trans d);have j:=O h2;clear d h2;go_wp2_with fail;go_ret;exact⟨rfl,j.o,r.o⟩
theorem lG (x:Bs)(i:Mist.kind x=3∨Mist.kind x=4)(w:World)(k:Nat)(xs:List NV)(nv:Value)(h:PS g tv l en iv w k xs nv)(f:k≤l.length)(b:¬ tx l k=x) :
  Calls Tryz.prog 172 #[.pointer (some ⟨g,0,none⟩),.string (aG x)] w fun e j=>e=.returned (.bool false)∧Below w.heap.size w j:=by
 have H:=O h;clear h;have d:=O (show decide (tx l k=x)=false by simp [b]);clear b;go_in
 go_wp2_with fail;refine (vR x i g tv l en iv _ k xs nv (H.o.alloc _) f hF.len hF.kind w.heap.size _ 9 (0,0) (heap_alloc_new _ _) false d.o).mono ?_;rintro e w1⟨rfl,a⟩;have c:=O ((aU (o:=.cells #[.string (aG x)] 9) (Below.refl w.heap.size w) (amL _)).trans (a.mono (by simp)));clear a;go_wp2_with fail;go_ret;exact⟨rfl,c.o⟩
theorem OO (c:Nat)(w:World)(k:Nat)(xs:List NV)(nv:Value)(h:PS g tv l en iv w k xs nv)(n:k≤l.length)(m:(tg l k).kind=c) :
  Calls Tryz.prog 182 #[.pointer (some ⟨g,0,none⟩),.int .u8 c] w fun e q=>e=.returned (jc l en k)∧PS g tv l en iv q (k+1) xs nv∧Mv g nv.ownBlock w nv.ownBlock q:=by
 have H:=O h;clear h;have x:(((tg l k).kind:Int) != (c:Int))=false:=by rw [m];simp
 clear m;have d:=O (H.o.new (amL _));have j:=bY.new w 112 #[.int .u8 0,.string ⟨#[]⟩,.int .i64 0];have B:=yO;go_in
 go_wp2_with fail;refine (iU g tv l en iv _ k xs nv (H.o.alloc _) n hF.len).mono ?_;rintro e w1⟨rfl,b⟩;have i:=j.below b (by simp);have u:=O (((Mv.refl (g:=g) (r0:=nv.ownBlock) (w:=w)).gT (o:=.cells #[.int .u8 0,.string ⟨#[]⟩,.int .i64 0] 112)).o_ b);have r:=O ((H.o.alloc (.cells #[.int .u8 0,.string ⟨#[]⟩,.int .i64 0] 112)).below b);clear b j;go_wp2_with fail;refine (tQ g tv l en iv _ k xs nv r.o n hF.len).mono ?_;rintro e C⟨rfl,h2,f⟩;have a:=f.blk i (Nat.ne_of_gt d.o.lt) (Ne.symm d.o.row);have A:=O (u.o.trans f);have t:=O h2;clear f h2 i;have y:=a.lt;have r0:=a.cell 0;have r1:=a.cell 1;have r2:=a.cell 2;have D:=a.frozen 0;have E:=a.frozen 1;have F:=a.frozen 2;clear a;go_wp2_with fail;refine bodyPost_ret (v:=jc l en k) (by simp [results,go_sem,jc,r0,r1,r2]) rfl ?_;exact⟨rfl,by (repeat (first | exact t.o | refine PS.far ?_ d.o _ _)),by (repeat (first | exact A.o | refine Mv.R_ ?_ (amL _)))⟩
theorem Vh (c:Nat)(w:World)(k:Nat)(xs:List NV)(nv:Value)(h:PS g tv l en iv w k xs nv)(d:k≤l.length)(i:¬ (tg l k).kind=c) :
  Calls Tryz.prog 182 #[.pointer (some ⟨g,0,none⟩),.int .u8 c] w fun e m=>e=aY l en k∧Below w.heap.size w m:=by
 have H:=O h;clear h;have j:(((tg l k).kind:Int) != (c:Int))=true:=by simp;omega
 clear i;have n:=yO;go_in
 go_wp2_with fail;refine (iU g tv l en iv _ k xs nv (H.o.alloc _) d hF.len).mono ?_;rintro e w1⟨rfl,a⟩;have b:=O ((aU (o:=.cells #[.int .u8 0,.string ⟨#[]⟩,.int .i64 0] 112) (Below.refl w.heap.size w) (amL _)).trans (a.mono (by simp)));have f:=O ((H.o.alloc (.cells #[.int .u8 0,.string ⟨#[]⟩,.int .i64 0] 112)).below a);clear a;go_wp2_with fail;refine (sU g tv l en iv _ k xs nv f.o d hF.len).mono ?_;rintro e q⟨rfl,a⟩;go_wp2_with fail;exact⟨rfl,rfl,b.o.trans (a.mono b.o.size)⟩
theorem kE (w:World)(k:Nat)(xs:List NV)(nv:Value)(h:PS g tv l en iv w k xs nv)(n:k≤l.length)(f:(tg l k).kind=1) :
  Calls Tryz.prog 166 #[.pointer (some ⟨g,0,none⟩)] w fun e i=>e=.returned (jc l en k)∧PS g tv l en iv i (k+1) xs nv∧Mv g nv.ownBlock w nv.ownBlock i:=by
 have H:=O h;clear h;have m:=O f;clear f;have b:=O (H.o.new (amL _));have d:=bY.new w 112 #[.int .u8 0,.string ⟨#[]⟩,.int .i64 0];go_in
 go_wp2_with fail;refine (OO g tv l en iv hF 1 _ k xs nv (H.o.alloc _) n m.o).mono ?_;rintro e t⟨rfl,h2,c⟩;have a:=c.blk d (Nat.ne_of_gt b.o.lt) (Ne.symm b.o.row);have r:=O (((Mv.refl (g:=g) (r0:=nv.ownBlock) (w:=w)).gT (o:=.cells #[.int .u8 0,.string ⟨#[]⟩,.int .i64 0] 112)).trans c);have j:=O h2;clear c h2 d;have q:=a.lt;have r0:=a.cell 0;have r1:=a.cell 1;have r2:=a.cell 2;have u:=a.frozen 0;have x:=a.frozen 1;have y:=a.frozen 2;clear a;unfold jc;go_wp2_with fail;refine bodyPost_ret (v:=jc l en k) (by simp [results,go_sem,jc,r0,r1,r2]) rfl ?_;exact⟨rfl,by (repeat (first | exact j.o | refine PS.far ?_ b.o _ _)),by (repeat (first | exact r.o | refine Mv.R_ ?_ (amL _)))⟩
theorem mo (w:World)(k:Nat)(xs:List NV)(nv:Value)(h:PS g tv l en iv w k xs nv)(d:k≤l.length)(a:¬ (tg l k).kind=1) :
  Calls Tryz.prog 166 #[.pointer (some ⟨g,0,none⟩)] w fun e f=>e=aY l en k∧Below w.heap.size w f:=by
 have H:=O h;clear h;have b:=O a;clear a;go_in
 go_wp2_with fail;refine (Vh g tv l en iv hF 1 _ k xs nv (H.o.alloc _) d b.o).mono ?_;rintro e i⟨rfl,c⟩;unfold aY;go_wp2_with fail;exact⟨rfl,rfl,(aU (o:=.cells #[.int .u8 0,.string ⟨#[]⟩,.int .i64 0] 112) (Below.refl w.heap.size w) (amL _)).trans (c.mono (by simp))⟩
end
section
variable (g:Nat) (tv:Value) (l:List Tok) (en:Int) (iv:Value)
theorem adK (K:Nat)(D E:Value)(p:Int)(x:Bs)(N:Int)(C:Value)(kids:List Int)(w:World)(k:Nat)(xs:List NV)(nv:Value)(h:PS g tv l en iv w k xs nv)(n:dw w C kids)(W:xs.length≤1000000) :
  Calls Tryz.prog 168 #[.pointer (some ⟨g,0,none⟩),.int .u8 K,.agg #[D,E,.int .i64 p],.string (aG x),.int .i64 N,C] w fun e J=>e=.returned (.int .i64 (xs.length:Nat))∧∃ gY,PS g tv l en iv J k (xs ++ [(⟨K,x,N,kids,p⟩,C)]) gY∧Mv g nv.ownBlock w gY.ownBlock J:=by
 obtain⟨A,c,rfl⟩:=dA n;obtain⟨T,q,r,v,y⟩:=info_parts Dz;have H:=O h;clear h;have L:=O n;clear n;have R:=H.o.lt;have c3:=H.o.blk.cell 3;have U:=H.o.blk.frozen 3;obtain⟨f,d⟩:∃ f,f=kids.length:=⟨_,rfl⟩;rw [← d];have M:=O d;clear d;have S:¬ w.heap.size=g:=by omega
 go_in
 go_wp2_with fail
 go_region_law ((refine step_append_lies _ (by rfl) _ _ _ (by rfl) g 56 T _ 5 64 Tryz.underlying25 q r v y rfl (by omega) _ xs.length (jC xs) (by rfl) (((H.o.own.alloc _).alloc _).drew)
                  ⟨w.heap.size+1,0,none⟩ 1 1 (iE (⟨K,x,N,kids,p⟩,.slice A f c)) (by rfl) (by rfl) (World.news_of_block (cs:=#[.int .u8 K,.string (aG x),.int .i64 N,.slice A f c,.int .i64 p]) (t:=56) (fr:=(0,0)) (wI w _ _)) (by intro u I;simp [iE] at I;rcases I with rfl | rfl | rfl | rfl | rfl <;> rfl)
                  (by omega) (by simp only [maxLen];omega) (by omega) (by simp;omega) (w.heap.size+2) (by simp) ?_;intro V cap w1 b a i G;have B:=((H.o.alloc (.cells #[D,E,.int .i64 p] 112)).alloc (.cells #[.int .u8 K,.string (aG x),.int .i64 N,.slice A f c,.int .i64 p] 56)).drew.blk.grown a (fun e=>aW H.o.own H.o.blk (by decide) e.symm);have P:=B.cell 3;have Q:=B.frozen 3;clear B))
 all_goals
  have F:=O a;clear a;have m:=O b;clear b;have j:=O i;clear i;go_wp2;go_ret
  refine⟨by (first | rfl|(congr 2;omega)),_,PS.add ((H.o.alloc (.cells #[D,E,.int .i64 p] 112)).alloc (.cells #[.int .u8 K,.string (aG x),.int .i64 N,.slice A f c,.int .i64 p] 56)).drew F.o m.o (M.o ▸ own_below L.o (Below.drew (aU (aU (Below.refl _ _) (amL _)) (by simp)))),?_⟩
  refine Mv.ad3 ?_;refine Mv.trans (r1:=nv.ownBlock) (Mv.gT (Mv.gT Mv.refl)).RV (Mv.grown F.o ?_);rcases j.o with e | e
  ·left;rw [e];rfl
  ·right;rw [e];simp [Value.ownBlock]
theorem qI (hF:PF l)(w:World)(k:Nat)(xs:List NV)(nv:Value)(h:PS g tv l en iv w k xs nv)(C:k≤l.length)(f:(tg l k).kind=2) :
  Calls Tryz.prog 173 #[.pointer (some ⟨g,0,none⟩)] w fun e t=>e=.returned (.tuple #[jc l en k,.int .i64 (numOf (tx l k):Nat)])∧PS g tv l en iv t (k+1) xs nv∧Mv g nv.ownBlock w nv.ownBlock t:=by
 have H:=O h;clear h;have A:=O (BJ (tx l k) (by unfold tx;rw [hF.kind _ (Md l k (mH f (by simp))),f]));have y:=O f;clear f;have i:=O (H.o.new (amL _));have r:=bY.new w 112 #[.int .u8 0,.string ⟨#[]⟩,.int .i64 0];go_in
 go_wp2_with fail;refine (OO g tv l en iv hF 2 _ k xs nv (H.o.alloc _) C y.o).mono ?_;rintro e u⟨rfl,h2,m⟩;have n:=m.blk r (Nat.ne_of_gt i.o.lt) (Ne.symm i.o.row);have G:=O (((Mv.refl (g:=g) (r0:=nv.ownBlock) (w:=w)).gT (o:=.cells #[.int .u8 0,.string ⟨#[]⟩,.int .i64 0] 112)).trans m);have q:=O h2;have j:=bY.new u 112 #[.int .u8 (tg l k).kind,.string (aG (tx l k)),.int .i64 (pl l en k)];have c:=n.alloc (.cells #[.int .u8 (tg l k).kind,.string (aG (tx l k)),.int .i64 (pl l en k)] 112);have D:=n.lt;clear m h2 r n;unfold jc;go_wp2_with fail;refine (Tk (tx l k) _ ((q.o.alloc (.cells #[.int .u8 (tg l k).kind,.string (aG (tx l k)),.int .i64 (pl l en k)] 112)).ajB) (by have:=hF.tx k;omega)).mono ?_;rintro e L⟨rfl,b⟩;rw [A.o];have a:=c.below b c.lt;have d:=j.below b j.lt;have x:=O ((q.o.alloc (.cells #[.int .u8 (tg l k).kind,.string (aG (tx l k)),.int .i64 (pl l en k)] 112)).below b);have B:=O ((G.o.gT (o:=.cells #[.int .u8 (tg l k).kind,.string (aG (tx l k)),.int .i64 (pl l en k)] 112)).o_ b);have E:=c.lt;have F:¬ u.heap.size=w.heap.size:=by omega
 clear b c j;have r0:=a.cell 0;have r1:=a.cell 1;have r2:=a.cell 2;have M:=a.frozen 0;have N:=a.frozen 1;have P:=a.frozen 2;have I:=d.cell 0;have J:=d.cell 1;have K:=d.cell 2;clear a d;go_wp2_with fail;refine bodyPost_ret (v:=.tuple #[jc l en k,.int .i64 (numOf (tx l k):Nat)]) (by simp [results,go_sem,jc,r0,r1,r2]) rfl ?_;exact⟨rfl,by (repeat (first | exact x.o | refine PS.far ?_ i.o _ _)),by (repeat (first | exact B.o | refine Mv.R_ ?_ (amL _)))⟩
theorem wN (hF:PF l)(w:World)(k:Nat)(xs:List NV)(nv:Value)(h:PS g tv l en iv w k xs nv)(d:k≤l.length)(a:¬ (tg l k).kind=2) :
  Calls Tryz.prog 173 #[.pointer (some ⟨g,0,none⟩)] w fun e f=>e=aY l en k∧Below w.heap.size w f:=by
 have H:=O h;clear h;have b:=O a;clear a;go_in
 go_wp2_with fail;refine (Vh g tv l en iv hF 2 _ k xs nv (H.o.alloc _) d b.o).mono ?_;rintro e i⟨rfl,c⟩;unfold aY;go_wp2_with fail;exact⟨rfl,rfl,(aU (o:=.cells #[.int .u8 0,.string ⟨#[]⟩,.int .i64 0] 112) (Below.refl w.heap.size w) (amL _)).trans (c.mono (by simp))⟩
end
def jF:List (Bs × Value)→Nat→List MapEntry
 | [],_=>[]
 | (k,v) :: r,i=>⟨.string (aG k),v,i⟩ :: jF r (i+1)
def qQ (x:Bs):List (Bs × Value)→Option Value
 | []=>none
 | (k,v) :: r=>if x=k then some v else qQ x r
theorem aev (x:Bs)(y:Bs):(aG x == aG y)=decide (x=y):=by
 rw [amK];constructor
 ·intro h
  have:=aF x
  rw [beq_toListBytes] at h
  rw [aF,aF] at h
  simpa using h
 ·intro h;have h:x=y:=by simpa using h
  rw [h,beq_toListBytes];simp
theorem Di (x:Bs):∀ (l:List (Bs × Value)) (i j:Nat),∃ n,Instr.findNow .string (.string (aG x)) (jF l j) i=some ((qQ x l).map fun v=>(n,v))
 | [],i,j=>⟨0,rfl⟩
 | (k,v) :: r,i,j=>by
  simp only [jF,qQ,Instr.findNow,Instr.sameNow,aev];by_cases h:x=k
  ·exact⟨i,by simp [h]⟩
  ·obtain⟨n,a⟩:=Di x r (i+1) (j+1);exact⟨n,by simp [h,a]⟩
theorem Ck (b:Bool)(s:ByteArray)(w:World):(Instr.checkKey b 10000 9 (.string s)).run Tryz.prog w=.ok () w :=
 MapKept.run_checkKey Tryz.underlying9 (by trivial) b 9999
theorem Gv (T E:TypeId)(z:Value)(a:Tryz.prog.underlying T=some (.map 9 E))(w:World)(h:(zeroValue E).run Tryz.prog w=.ok z w)(l:List (Bs × Value))(m c:Nat)(e:w.heap[m]? = some (.map (jF l 0).toArray c))(x:Bs)(ok:Bool) :
  (Instr.lookup T (.map (some m)) (.string (aG x)) ok).run Tryz.prog w=.ok (if ok then .tuple #[(qQ x l).getD z,.bool (qQ x l).isSome] else (qQ x l).getD z) w:=by
 have d:(getObj m).run Tryz.prog w=.ok (.map (jF l 0).toArray c) w:=MapKept.run_getObj_map e;obtain⟨n,f⟩:=Di x l 0 0
 have b:(Instr.findKey 9 (.string (aG x)) (jF l 0)).run Tryz.prog w=.ok ((qQ x l).map fun v=>(n,v)) w:=by
  simp only [Instr.findKey,Sem.run_bind,run_underlying Tryz.underlying9,Result.andThen_ok,f];rfl
 unfold Instr.lookup;simp only [Sem.run_bind,run_underlying a,Result.andThen_ok,d,Ck,b,Sem.run_pure]
 cases qQ x l with
 | none =>
  simp only [Option.map_none,Sem.run_bind,h,Result.andThen_ok,Sem.run_pure]
  cases ok <;> rfl
 | some v =>
  simp only [Option.map_some,Sem.run_pure,Result.andThen_ok]
  cases ok <;> rfl
theorem heap_put (w:World)(o a:Obj):(w.alloc o).heap.setIfInBounds w.heap.size a=(w.alloc a).heap:=by
 show (w.heap.push o).setIfInBounds w.heap.size a=w.heap.push a
 ext i h1 h2
 ·simp
 ·rw [Array.getElem_setIfInBounds]
  ·rw [Array.getElem_push,Array.getElem_push];split
   ·rename_i h;subst h;simp
   ·split <;> first | rfl|(simp at h2;omega)
  ·simpa using h1
theorem PX:∀ (l:List (Bs × Value)) (k:Bs) (v:Value) (i:Nat),jF (l ++ [(k,v)]) i=jF l i ++ [⟨.string (aG k),v,i+l.length⟩]
 | [],_,_,_=>rfl
 | (a,b) :: r,k,v,i=>by
  simp only [List.cons_append,jF,PX r k v (i+1),List.length_cons];rw [show i+1+r.length=i+(r.length+1) by omega]
theorem eU (T E:TypeId)(c:Tryz.prog.underlying T=some (.map 9 E))(w:World)(l:List (Bs × Value))(k:Bs)(v:Value)(h:qQ k l=none) :
  (Instr.mapUpdate T (.map (some w.heap.size)) (.string (aG k)) v).run Tryz.prog (w.alloc (.map (jF l 0).toArray l.length))=.ok () (w.alloc (.map (jF (l ++ [(k,v)]) 0).toArray (l.length+1))):=by
 have b:(w.alloc (.map (jF l 0).toArray l.length)).heap[w.heap.size]? = some (.map (jF l 0).toArray l.length):=heap_alloc_new w _;have f:(getObj w.heap.size).run Tryz.prog (w.alloc (.map (jF l 0).toArray l.length))=.ok (.map (jF l 0).toArray l.length) (w.alloc (.map (jF l 0).toArray l.length)):=MapKept.run_getObj_map b;obtain⟨n,a⟩:=Di k l 0 0;rw [h] at a
 have d:(Instr.findKey 9 (.string (aG k)) (jF l 0)).run Tryz.prog (w.alloc (.map (jF l 0).toArray l.length))=.ok none (w.alloc (.map (jF l 0).toArray l.length)):=by
  simp only [Instr.findKey,Sem.run_bind,run_underlying Tryz.underlying9,Result.andThen_ok,a];rfl
 have i:∀ o,(setObj w.heap.size o).run Tryz.prog (w.alloc (.map (jF l 0).toArray l.length))=.ok () (w.alloc o):=by
  intro o;rw [MapKept.run_setObj_map o b,heap_put];rfl
 have e:(jF l 0).toArray.push ⟨.string (aG k),v,l.length⟩=(jF (l ++ [(k,v)]) 0).toArray:=by
  rw [PX];simp
 unfold Instr.mapUpdate;simp only [Sem.run_bind,run_underlying c,Result.andThen_ok,f,Ck,d,i,e]
def adS:El→Nat
 | .expr=>174
 | .put=>208
 | .param=>170
def xG:Lv→Nat
 | .or=>184
 | .and=>186
 | .not=>190
 | .cmp=>196
 | .sum=>200
 | .term=>203
 | .unary=>204
def rO:Job→Nat
 | .expr=>174
 | .lv v=>xG v
 | .post=>205
 | .atom=>206
 | .put=>208
 | .param=>170
 | .typ=>171
 | _=>0
def pK (w:World)(ext:List NV):Prop:=∀ x ∈ ext,∀ b,x.2.ownBlock=some b→w.heap.size≤b
theorem pK.nil (w:World):pK w []:=fun x h=>by cases h
theorem pK.append {w:World}{a b:List NV}(h:pK w a)(k:pK w b):pK w (a ++ b):=fun x c=>by
 rcases List.mem_append.1 c with c | c
 ·exact h x c
 ·exact k x c
theorem pK.mono {w c:World}{a:List NV}(h:pK c a)(e:w.heap.size≤c.heap.size):pK w a:=fun x f b d=>Nat.le_trans e (h x f b d)
theorem pK.one {w:World}{n:Nd}{v:Value}(h:∀ b,v.ownBlock=some b→w.heap.size≤b):pK w [(n,v)]:=fun x c b a=>by
 rw [List.mem_singleton.1 c] at a;exact h b a
section
variable (g:Nat) (tv:Value) (l:List Tok) (en:Int) (iv:Value)
structure At (w:World) (xs:List NV) (nv:Value) (k:Nat) (ns:List Nd) (w':World) (ext:List NV) (gY:Value):Prop where
 ns:aH (xs ++ ext)=ns
 ps:PS g tv l en iv w' k (xs ++ ext) gY
 mv:Mv g nv.ownBlock w gY.ownBlock w'
 fresh:pK w ext
def bG (w:World)(xs:List NV)(nv:Value)(r:j5)(e:Ending)(w':World):Prop :=
 match r with
 | .ok ks k ns=>e=.returned (.int .i64 (hd ks))∧∃ ext gY,At g tv l en iv w xs nv k ns w' ext gY
 | .bad k=>e=aY l en k∧Below g w w'
def DY (w:World)(xs:List NV)(nv:Value)(r:j5)(e:Ending)(w':World):Prop :=
 match r with
 | .ok ks k ns=>∃ v ext gY,e=.returned v∧w'.ownsRow w.heap.size 3 1 v ks.length (intCells ks)∧At g tv l en iv w xs nv k ns w' ext gY∧∀ x ∈ ext,x.2.ownBlock=none∨x.2.ownBlock ≠ v.ownBlock
 | .bad k=>e=aY l en k∧Below g w w'
variable {g tv l en iv}
theorem bG.ok {w a:World}{xs ext:List NV}{nv gY:Value}{ks:List Int}{k:Nat}{ns:List Nd}{e:Ending}(c:e=.returned (.int .i64 (hd ks)))(b:At g tv l en iv w xs nv k ns a ext gY):bG g tv l en iv w xs nv (.ok ks k ns) e a:=⟨c,ext,gY,b⟩
theorem bG.bad {w a:World}{xs:List NV}{nv:Value}{k:Nat}{e:Ending}(c:e=aY l en k)(b:Below g w a):bG g tv l en iv w xs nv (.bad k) e a:=⟨c,b⟩
theorem DY.bad {w a:World}{xs:List NV}{nv:Value}{k:Nat}{e:Ending}(c:e=aY l en k)(b:Below g w a):DY g tv l en iv w xs nv (.bad k) e a:=⟨c,b⟩
variable (g tv l en iv)
def IC (m:Nat)(j:Job):Prop:=∀ (w:World) (k:Nat) (xs:List NV) (nv:Value) (r:j5),PS g tv l en iv w k xs nv→k≤l.length→xs.length≤k→Wf (aH xs)→run l en m j k (aH xs)=some r →
 Calls Tryz.prog (rO j) #[.pointer (some ⟨g,0,none⟩)] w (bG g tv l en iv w xs nv r)
def LC (m:Nat)(e:El):Prop:=∀ (w:World) (k:Nat) (xs:List NV) (nv:Value) (r:j5),PS g tv l en iv w k xs nv→k≤l.length→xs.length≤k→Wf (aH xs)→run l en m (.list e) k (aH xs)=some r →
 Calls Tryz.prog 169 #[.pointer (some ⟨g,0,none⟩),.func (.func (adS e)) #[] #[]] w (DY g tv l en iv w xs nv r)
variable {g tv l en iv}
theorem At.refl {w:World}{k:Nat}{xs:List NV}{nv:Value}(h:PS g tv l en iv w k xs nv):At g tv l en iv w xs nv k (aH xs) w [] nv :=
 ⟨by simp,by simpa using h,Mv.refl,pK.nil _⟩
theorem At.trans {w w1 f:World}{xs ext a:List NV}{nv c b:Value}{j d:Nat}{i e:List Nd}(h:At g tv l en iv w xs nv j i w1 ext c)(h2:At g tv l en iv w1 (xs ++ ext) c d e f a b):At g tv l en iv w xs nv d e f (ext ++ a) b :=
 ⟨by rw [← List.append_assoc];exact h2.ns,by rw [← List.append_assoc];exact h2.ps,h.mv.trans h2.mv,h.fresh.append (h2.fresh.mono h.mv.size)⟩
theorem At.step {w w1 b:World}{xs ext:List NV}{nv a:Value}{e d:Nat}{c:List Nd}(h:At g tv l en iv w xs nv e c w1 ext a)(p:PS g tv l en iv b d (xs ++ ext) a)(m:Mv g a.ownBlock w1 a.ownBlock b):At g tv l en iv w xs nv d c b ext a :=
 ⟨h.ns,p,h.mv.trans m,h.fresh⟩
theorem At.add {w w1 d:World}{xs ext:List NV}{nv f a:Value}{c:Nat}{e:List Nd}{n:Nd}{v:Value}(h:At g tv l en iv w xs nv c e w1 ext f)(p:PS g tv l en iv d c ((xs ++ ext) ++ [(n,v)]) a)(m:Mv g f.ownBlock w1 a.ownBlock d)(i:∀ b,v.ownBlock=some b→w.heap.size≤b) :
  At g tv l en iv w xs nv c (e ++ [n]) d (ext ++ [(n,v)]) a :=
 ⟨by rw [← List.append_assoc,yF,h.ns];rfl,by rw [← List.append_assoc];exact p,h.mv.trans m,h.fresh.append (pK.one i)⟩
theorem At.low {w w1:World}{xs ext:List NV}{nv c:Value}{k d:Nat}{b:List Nd}(h:PS g tv l en iv w k xs nv)(a:At g tv l en iv w xs nv d b w1 ext c):Below g w w1:=h.low a.mv
theorem At.len {w w1:World}{xs ext:List NV}{nv b:Value}{c:Nat}{a:List Nd}(h:At g tv l en iv w xs nv c a w1 ext b):(xs ++ ext).length=a.length:=by rw [← dK,h.ns]
def xH (g n:Nat)(w:World):Nat:=n - (intOf ((w.cell? ⟨g,2,none⟩).getD undef)).toNat
theorem PS.xH {w:World}{k n:Nat}{xs:List NV}{nv:Value}(h:PS g tv l en iv w k xs nv):xH g n w=n - k:=by
 have e:w.cell? ⟨g,2,none⟩=some (.int .i64 k):=h.blk.cell 2;unfold Go.Proofs.YtalghggmkojblaaGreatDoor.xH;rw [e];simp [intOf]
end
section
variable {g:Nat} {tv:Value} {l:List Tok} {en:Int} {iv:Value}
theorem At.below {w w1 e:World}{xs ext:List NV}{nv c:Value}{d:Nat}{a:List Nd}(h:At g tv l en iv w xs nv d a w1 ext c)(b:Below w1.heap.size w1 e):At g tv l en iv w xs nv d a e ext c :=
 ⟨h.ns,h.ps.below b,h.mv.o_ b,h.fresh⟩
theorem At.alloc {w w1:World}{xs ext:List NV}{nv b:Value}{c:Nat}{a:List Nd}(h:At g tv l en iv w xs nv c a w1 ext b)(o:Obj):At g tv l en iv w xs nv c a (w1.alloc o) ext b:=h.below ((Below.refl _ _).alloc (amL _) o)
theorem At.drew {w w1:World}{xs ext:List NV}{nv b:Value}{c:Nat}{a:List Nd}(h:At g tv l en iv w xs nv c a w1 ext b):At g tv l en iv w xs nv c a w1.drew ext b:=h.below (Below.drew (Below.refl _ _))
theorem At.from_ {w w1:World}{o:Obj}{xs ext:List NV}{nv b:Value}{c:Nat}{a:List Nd}(h:At g tv l en iv (w.alloc o) xs nv c a w1 ext b):At g tv l en iv w xs nv c a w1 ext b :=
 ⟨h.ns,h.ps,(Mv.gT Mv.refl).trans h.mv,h.fresh.mono (by simp)⟩
theorem Far.mv {w w1:World}{k:Nat}{xs:List NV}{nv:Value}{r1:Option Nat}(h:PS g tv l en iv w k xs nv)(m:Mv g nv.ownBlock w r1 w1){b:Nat}{T:TypeId}{cs:Array Value}(a:bY w b T cs)(d:g ≠ b)(c:nv.ownBlock ≠ some b):bY w1 b T cs∧r1 ≠ some b :=
 ⟨m.blk a (Ne.symm d) (Ne.symm c),Ne.symm (m.ne a.lt (Ne.symm c))⟩
theorem PS.tag {w:World}{k:Nat}{xs:List NV}{nv:Value}(h:PS g tv l en iv w k xs nv){b:Nat}{T:TypeId}{cs:Array Value}(a:bY w b T cs)(h1:T ≠ 126)(h2:T ≠ 56):b ≠ g∧some b ≠ nv.ownBlock :=
 ⟨a.ne_ h.blk h1,fun e=>aW h.own a (Ne.symm h2) e.symm⟩
theorem PS.bH {w c:World}{k:Nat}{xs:List NV}{nv:Value}(h:PS g tv l en iv w k xs nv){row:Option Nat}(m:Mv g nv.ownBlock w row c){b:Nat}{T:TypeId}{cs:Array Value}(a:bY w b T cs)(h1:T ≠ 126:=by decide)(h2:T ≠ 56:=by decide):bY c b T cs :=
 m.blk a (h.tag a h1 h2).1 (h.tag a h1 h2).2
theorem At.blk {w1 c:World}{xs ext:List NV}{nv e:Value}{k f:Nat}{d:List Nd}(h:At g tv l en iv w1 xs nv f d c ext e)(p:PS g tv l en iv w1 k xs nv){b:Nat}{T:TypeId}{cs:Array Value}(a:bY w1 b T cs)(h1:T ≠ 126)(h2:T ≠ 56):bY c b T cs :=
 h.mv.blk a (p.tag a h1 h2).1 (p.tag a h1 h2).2
theorem PS.qH {w:World}{k:Nat}{xs:List NV}{nv:Value}(h:PS g tv l en iv w k xs nv){b c:Nat}{i:Array MapEntry}(a:w.heap[b]? = some (.map i c)):b ≠ g∧some b ≠ nv.ownBlock:=by
 constructor
 ·rintro rfl
  have:=h.blk;unfold bY at this;rw [a] at this;cases this
 ·intro e;rcases h.own.2 with ⟨hv,_⟩ | ⟨j,cap,f,hv,_,d,_⟩
  ·rw [hv] at e;simp [Value.ownBlock] at e
  ·rw [hv] at e;simp [Value.ownBlock] at e
   rw [← e,a] at d;cases d
theorem At.map {w1 e:World}{xs ext:List NV}{nv i:Value}{k j:Nat}{f:List Nd}(h:At g tv l en iv w1 xs nv j f e ext i)(p:PS g tv l en iv w1 k xs nv){b c:Nat}{d:Array MapEntry}(a:w1.heap[b]? = some (.map d c)):e.heap[b]? = some (.map d c) :=
 (h.mv.block b (amI.1 a).1 (p.qH a).1 (p.qH a).2).trans a
theorem I7 {n k:Nat}{v:Lv}{a:Int}{ns:List Nd}(h:mq v (tx l k)=0):run l en (n+1) (.tail v a) k ns=some (.ok [a] k ns):=by rw [run,if_pos h]
theorem PW {n k : Nat} {v : Lv} {a : Int} {ns : List Nd} (h : ¬ mq v (tx l k) = 0) : run l en (n + 1) (.tail v a) k ns = thn (run l en n (.lv v.below) (k + 1) ns) fun b i f => thn (add ⟨mq v (tx l k), [], 0, [a, hd b], pl l en k⟩ i f) fun c d e =>
      if v=.cmp then some (.ok [hd c] d e) else run l en n (.tail v (hd c)) d e:=by rw [run,if_neg h]
end
theorem h_ (g:Nat)(tv:Value)(l:List Tok)(en:Int)(iv:Value)(n:Nat)(K:Nat)(b c:Value)(p:Int)(x:Bs)(N:Int)(a:Value)(kids:List Int)(w:World)(k:Nat)(xs:List NV)(nv:Value)(h:PS g tv l en iv w k xs nv)(f:dw w a kids)(i:xs.length=n)(j:n≤1000000) :
  Calls Tryz.prog 168 #[.pointer (some ⟨g,0,none⟩),.int .u8 K,.agg #[b,c,.int .i64 p],.string (aG x),.int .i64 N,a] w fun e d=>e=.returned (.int .i64 (n:Nat))∧∃ gY,PS g tv l en iv d k (xs ++ [(⟨K,x,N,kids,p⟩,a)]) gY∧Mv g nv.ownBlock w gY.ownBlock d:=by
 subst i;exact adK g tv l en iv K b c p x N a kids w k xs nv h f j
inductive Nth:List Oper→Nat→Oper→Prop
 | z {o:Oper} {r:List Oper}:Nth (o :: r) 0 o
 | s {a o:Oper} {r:List Oper} {n:Nat} (h:Nth r n o):Nth (a :: r) (n+1) o
theorem Nth.get {l:List Oper}{i:Nat}{o:Oper}(h:Nth l i o):l.toArray[i]? = some o:=by
 induction h with
 | z=>rfl
 | s _ a=>simpa using a
theorem kW {P:Program}{e:Region.Mode}{l:List Oper}{Q:Exit→Act→World→Prop}{S:World→Prop}{i:Nat}{d:Oper}{b:Nat}{listed:Array Bool}{a:Act}{w:World}(hi:Nth l i d)
  (k:Region.noSelect l.toArray=true) (f:Region.free e l.toArray listed i=true) (j:(Region.ready e l.toArray listed).contains i=true) {v:Value}
  (hQ:∀ c a w,Q (.panic c) (a.put d.dst v) w→Q (.panic c) a w) (hy:Region.wanted d (yielded l.toArray a.tmps)=true∧∀ w,S w→(execOp a.eval d).run P w=.ok (.value v) w) (hS:S w)
  (h:wpAnyH P e l.toArray Q S b (listed.setIfInBounds i true) (a.put d.dst v) w):wpAnyH P e l.toArray Q S (b+1) listed a w :=
 wpAnyH_take hi.get k f j hQ (Or.inl hy) hS h
theorem cB {P:Program}{e:Region.Mode}{l:List Oper}{Q:Exit→Act→World→Prop}{S:World→Prop}{d:Oper}{b:Nat}{listed:Array Bool}{a:Act}{w:World}(i:Nat)(hi:l[i]? = some d){v:Value}(hS:S w)
  (h:wpAnyH P e l.toArray Q S b (listed.setIfInBounds i true) (a.put d.dst v) w) (hy:Region.wanted d (yielded l.toArray a.tmps)=true:=by rfl)
  (hv:∀ w,S w→(execOp a.eval d).run P w=.ok (.value v) w:=by intro w0 f;(try dsimp only at f);go_split_ands;go_simp;try with_reducible rfl)
  (m:Region.noSelect l.toArray=true:=by kernel_rfl) (j:Region.free e l.toArray listed i=true:=by kernel_rfl) (k:(Region.ready e l.toArray listed).contains i=true:=by kernel_rfl)
  (hQ:∀ c a w,Q (.panic c) (a.put d.dst v) w→Q (.panic c) a w:=by exact fun _ _ _ h=>h):wpAnyH P e l.toArray Q S (b+1) listed a w :=
 wpAnyH_take (by simpa using hi) m j k hQ (Or.inl ⟨hy,hv⟩) hS h
theorem gM {P:Program}{e:Region.Mode}{l:List Oper}{Q:Exit→Act→World→Prop}{S:World→Prop}{i:Nat}{c:Oper}{b:Nat}{listed:Array Bool}{a:Act}{w:World}(hi:Nth l i c)
  (h:∀ d:Act→World→Prop,Shut (∀ a w,S w→(S w→wpAnyH P e l.toArray Q S b (listed.setIfInBounds i true) a w)→d a w)→if Region.wanted c (yielded l.toArray a.tmps)=true then Oper.wp P c a w d Q else d (a.put c.dst undef) w) :
  AllReadyH P e l.toArray Q S b listed a w [i]:=AllReadyH.cons hi.get h AllReadyH.nil
theorem Yj {P:Program}{f:Region.Mode}{l:List Oper}{Q:Exit→Act→World→Prop}{S:World→Prop}{i j:Nat}{d e:Oper}{b:Nat}{listed:Array Bool}{a:Act}{w:World}(hi:Nth l i d)(k:Nth l j e)
  (h:∀ c:Act→World→Prop,Shut (∀ a w,S w→(S w→wpAnyH P f l.toArray Q S b (listed.setIfInBounds i true) a w)→c a w)→if Region.wanted d (yielded l.toArray a.tmps)=true then Oper.wp P d a w c Q else c (a.put d.dst undef) w)
  (h2:∀ c:Act→World→Prop,Shut (∀ a w,S w→(S w→wpAnyH P f l.toArray Q S b (listed.setIfInBounds j true) a w)→c a w)→if Region.wanted e (yielded l.toArray a.tmps)=true then Oper.wp P e a w c Q else c (a.put e.dst undef) w) :
  AllReadyH P f l.toArray Q S b listed a w [i,j]:=AllReadyH.cons hi.get h (AllReadyH.cons k.get h2 AllReadyH.nil)
theorem ET (w:World)(a b:Int):dw (w.alloc (.cells #[.int .i64 a,.int .i64 b] 3)) (.slice (some ⟨w.heap.size,0,none⟩) 2 2) [a,b]:=World.ownsRow_lit w _ 2 (amN _) (by simp [maxLen]) rfl
theorem rQ (w:World)(a:Int):dw (w.alloc (.cells #[.int .i64 a] 3)) (.slice (some ⟨w.heap.size,0,none⟩) 1 1) [a]:=World.ownsRow_lit w _ 1 (amN _) (by simp [maxLen]) rfl
theorem XA (w:World)(a b c:Int):dw (w.alloc (.cells #[.int .i64 a,.int .i64 b,.int .i64 c] 3)) (.slice (some ⟨w.heap.size,0,none⟩) 3 3) [a,b,c]:=World.ownsRow_lit w _ 3 (amN _) (by simp [maxLen]) rfl
def ents:Lv→List (Bs × Value)
 | .or=>[([111,114],.int .u8 18)]
 | .and=>[([97,110,100],.int .u8 17)]
 | .cmp=>[([61,61],.int .u8 11),([33,61],.int .u8 12),([60],.int .u8 13),([60,61],.int .u8 14),([62],.int .u8 15),([62,61],.int .u8 16)]
 | .sum=>[([43],.int .u8 6),([45],.int .u8 7)]
 | .term=>[([42],.int .u8 8),([47],.int .u8 9),([37],.int .u8 10)]
 | _=>[]
theorem adT (v:Lv)(x:Bs):(qQ x (ents v)).getD (.int .u8 0)=.int .u8 (mq v x:Nat):=by
 cases v <;> simp only [ents,qQ,mq] <;> (repeat' split) <;> rfl
theorem afi (w:World):(zeroValue 5).run Tryz.prog w=.ok (.int .u8 0) w:=by kernel_rfl
theorem adr (w:World):(zeroValue 3).run Tryz.prog w=.ok (.int .i64 0) w:=by kernel_rfl
theorem XG (w:World)(v:Lv)(m c:Nat)(a:w.heap[m]? = some (.map (jF (ents v) 0).toArray c))(x:Bs):(Instr.lookup 232 (.map (some m)) (.string (aG x)) false).run Tryz.prog w=.ok (.int .u8 (mq v x:Nat)) w:=by
 have h:=Gv 232 5 (.int .u8 0) Tryz.underlying232 w (afi w) (ents v) m c a x false;rw [h,adT];rfl
