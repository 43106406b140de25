/-
  A part of the proof.
-/
import Derived.Test.YtalghggmkojblaaGreatDoorS23
set_option linter.all false
set_option maxRecDepth 100000
set_option maxHeartbeats 2000000
namespace Go.Proofs.YtalghggmkojblaaGreatDoor
open Go.RowKit Mist
attribute [local go_sem] ak aN aV aF aj
def nY (w:World)(g:Nat)(lv:Value)(l:Bs):Prop :=
 ∃ A c,lv=.slice A l.length c∧l.length≤c∧c < 4611686018427387904∧(l ≠ []→∃ b o,A=some ⟨b,o,none⟩∧b < g∧b < w.heap.size∧∀ k,k < l.length→w.cell? ⟨b,o+k,none⟩=some (.int .u8 (gt l k).toNat))
theorem nY.below {w w':World}{g:Nat}{lv:Value}{l:Bs}(h:nY w g lv l)(i:Below g w w')(q:g≤w.heap.size):nY w' g lv l:=by
 obtain⟨A,c,rfl,j,d,n⟩:=h
 refine⟨A,c,rfl,j,d,fun h0=>?_⟩
 obtain⟨b,o,rfl,a,f,m⟩:=n h0;exact⟨b,o,rfl,a,amY f i.size,fun k e=>(i.cell (p:=⟨b,o+k,none⟩) a).trans (m k e)⟩
structure PL (g:Nat) (wild:Bool) (iv:Value) (w:World) (s:Gs) (xs:List NV) (nv lv:Value):Prop where
 blk:bY w g 41 #[lv,nv,iv,.bool wild]
 seed:nY w g lv s.left
 own:w.ownsRow g 56 5 nv xs.length (jC xs)
 kids:∀ x ∈ xs,dw w x.2 x.1.kids
 ns:aH xs=s.ns
 pow : Lib.TabBelow Tryz.prog g w "internal/strconv.uint64pow10" .u64 Lib.pow10Tab
section
variable {g:Nat} {wild:Bool} {iv:Value} {w w':World} {s:Gs} {xs:List NV} {nv lv:Value}
theorem PL.lt (h:PL g wild iv w s xs nv lv):g < w.heap.size:=h.blk.lt
theorem PL.len (h:PL g wild iv w s xs nv lv):xs.length=s.ns.length:=by rw [← h.ns,dK]
theorem PL.Ho (h:PL g wild iv w s xs nv lv):∀ b,nv.ownBlock=some b→g≤b:=fun b a=>(h.own.lt b a).1
theorem PL.acO (h:PL g wild iv w s xs nv lv):∀ b,nv.ownBlock=some b→b < w.heap.size:=fun b a=>(h.own.lt b a).2
theorem PL.low (h:PL g wild iv w s xs nv lv){row:Option Nat}(m:Mv g nv.ownBlock w row w'):Below g w w':=m.below h.lt (amL _) h.Ho
theorem PL.uy (h:PL g wild iv w s xs nv lv){row:Option Nat}(m:Mv g nv.ownBlock w row w'){v:Value}{ks:List Int}(a:dw w v ks):dw w' v ks :=
 m.row a (aW a h.blk (by decide)) (eB a h.own (by decide))
theorem PL.below (h:PL g wild iv w s xs nv lv)(a:Below w.heap.size w w'):PL g wild iv w' s xs nv lv :=
 ⟨h.blk.below a h.lt,h.seed.below (a.mono (amM h.lt)) (amM h.lt),own_below h.own a,fun x b=>own_below (h.kids x b) a,h.ns,h.pow.on (a.mono (amM h.lt))⟩
theorem PL.alloc (h:PL g wild iv w s xs nv lv)(o:Obj):PL g wild iv (w.alloc o) s xs nv lv:=h.below ((Below.refl _ _).alloc (amL _) o)
theorem PL.drew (h:PL g wild iv w s xs nv lv):PL g wild iv w.drew s xs nv lv:=h.below (Below.drew (Below.refl _ _))
theorem PL.next (h:PL g wild iv w s xs nv lv){b:UInt8}{r:Bs}(c:s.left=b :: r){a:Value}(d:nY w g a r):PL g wild iv (w.setCell ⟨g,0,none⟩ a) s.tl xs nv a :=
 have m:Mv g nv.ownBlock w nv.ownBlock _:=Mv.jX h.blk 0 a
 ⟨(by have:=h.blk.jX 0 a;simpa using this),(by show nY _ g a s.left.tail;rw [c];exact d.below (h.low m) (amM h.lt)),ownsRow_setCell_other h.own (aW h.own h.blk (by decide)) _,fun x e=>h.uy m (h.kids x e),h.ns,h.pow.on (h.low m)⟩
theorem PL.abT (h:PL g wild iv w s xs nv lv)(v:Value):Mv g nv.ownBlock w nv.ownBlock (w.setCell ⟨g,0,none⟩ v):=Mv.jX h.blk 0 v
theorem PL.add (h:PL g wild iv w s xs nv lv){w1:World}{gY:Value}{x:NV}(c:w.grownBy w1 nv.ownBlock)(a:w1.ownsRow g 56 5 gY (xs.length+1) (jC xs ++ iE x))(b:dw w x.2 x.1.kids):PL g wild iv (w1.setCell ⟨g,1,none⟩ gY) (s.put x.1) (xs ++ [x]) gY lv:=by
 have d:=h.blk.grown c (fun e=>aW h.own h.blk (by decide) e.symm)
 have keep:∀ {v:Value} {cs:List Int},dw w v cs→dw (w1.setCell ⟨g,1,none⟩ gY) v cs:=fun b =>
  ownsRow_setCell_other (b.kept c (eB b h.own (by decide))) (aW (b.kept c (eB b h.own (by decide))) d (by decide)) _
 have f:Below g w (w1.setCell ⟨g,1,none⟩ gY):=gQ ((Below.refl _ _).grown c (amM h.lt) h.Ho) (amL _)
 refine⟨?_,h.seed.below f (amM h.lt),?_,fun y hy=>?_,?_,h.pow.on f⟩
 ·have:=d.jX 1 gY;simpa using this
 ·rw [amQ,qc];have e:jC [x]=iE x:=by simp [jC]
  rw [e];exact ownsRow_setCell_other a (aW a d (by decide)) _
 ·rcases List.mem_append.1 hy with hy | hy
  ·exact keep (h.kids y hy)
  ·rw [List.mem_singleton.1 hy];exact keep b
 ·rw [yF,h.ns];rfl
end
theorem fD (g:Nat)(wild:Bool)(iv:Value)(w:World)(s:Gs)(xs:List NV)(nv lv:Value)(h:PL g wild iv w s xs nv lv) :
  Calls Tryz.prog 26 #[.pointer (some ⟨g,0,none⟩)] w fun e w'=>e=.returned (.int .i64 s.nx)∧∃ K,PL g wild iv w' s.tl xs nv K∧Mv g nv.ownBlock w nv.ownBlock w':=by
 have H:=O h;obtain⟨A,c,rfl,y,F,t⟩:=h.seed;have n:=h.blk.cell 0;have N:=h.blk.frozen 0;have J:=h.lt;clear h;rcases a:s.left with _ | ⟨b,r⟩
 ·have D:=O (show s.tl=s by unfold Gs.tl;rw [a];cases s;simp at a;rw [a];rfl);have l:=O (show s.nx=0 by unfold Gs.nx;rw [a];rfl);rw [a] at n
  clear a t;go_in
  go_wp2_with fail;go_ret;exact⟨by rw [l.o];rfl,_,by rw [D.o];exact H.o,Mv.refl⟩
 ·obtain⟨m,j,rfl,u,x,q⟩:=t (by rw [a];simp);have k0:=q 0 (by rw [a];simp);rw [a] at n k0 y
  have l:=O (show s.nx=b.toNat by unfold Gs.nx;rw [a];rfl);have C:=O a;have P:w.cell? ⟨m,j,none⟩=some (.int .u8 b.toNat):=k0;have i:(b :: r).length=r.length+1:=rfl;rw [i] at n y
  have M:b.toNat < 256:=b.toNat_lt;have L:((r.length:Int)+1 == 0)=false:=by simp;omega
  by_cases B:c=1
  ·subst B;have d:r.length=0:=by omega
   have f:=O (show nY w g (.slice (some ⟨m,j,none⟩) 0 0) r from ⟨_,0,by rw [d],by omega,by omega,fun h0=>absurd (List.eq_nil_of_length_eq_zero d) h0⟩);rw [d] at n
   clear a t q k0 i y d L
   generalize b.toNat=E at *
   go_in
   go_wp2_with fail;go_ret;exact⟨by rw [l.o];rfl,_,H.o.next C.o f.o,H.o.abT _⟩
  ·have G:¬ (c:Int)=1:=by omega
   have f:=O (show nY w g (.slice (some ⟨m,j+1,none⟩) r.length (c - 1)) r from ⟨_,_,rfl,by omega,by omega,fun _=>⟨m,j+1,rfl,u,x,fun k I=>by
   have:=q (k+1) (by rw [a];simp;omega)
   rw [a] at this
   rw [show j+1+k=j+(k+1) by omega,this];rfl⟩⟩)
   clear a t q k0 i
   generalize b.toNat=E at *
   go_in
   go_wp2_with fail;go_ret;exact⟨by rw [l.o];rfl,_,H.o.next C.o f.o,H.o.abT _⟩
theorem Yo (r:Nat)(h:r < 8)(w:World):Sem.run Tryz.prog (Instr.index 113 (.agg #[.string ⟨#[97]⟩,.string ⟨#[98]⟩,.string ⟨#[99,50]⟩,.string ⟨#[115,111]⟩,.string ⟨#[105,102,102]⟩,.string ⟨#[116,114,101,101]⟩,.string ⟨#[120]⟩,.string ⟨#[108,101,116,115]⟩]) (.int .i64 r)) w=.ok (.string (aG (sg pG r))) w:=by
 obtain rfl | rfl | rfl | rfl | rfl | rfl | rfl | rfl:r=0∨r=1∨r=2∨r=3∨r=4∨r=5∨r=6∨r=7:=by omega
 all_goals kernel_rfl
theorem acR (r:Nat)(h:r < 6)(w:World):Sem.run Tryz.prog (Instr.index 114 (.agg #[.string ⟨#[32]⟩,.string ⟨#[32,32]⟩,.string ⟨#[10]⟩,.string ⟨#[32,35,32,97,59,32,40,10]⟩,.string ⟨#[32]⟩,.string ⟨#[32,10,32]⟩]) (.int .i64 r)) w=.ok (.string (aG (sg xR r))) w:=by
 obtain rfl | rfl | rfl | rfl | rfl | rfl:r=0∨r=1∨r=2∨r=3∨r=4∨r=5:=by omega
 all_goals kernel_rfl
theorem jk (b:Nat)(w:World):Calls Tryz.prog 27 #[.int .i64 (b:Int)] w fun e w'=>e=.returned (.string (aG (dD b)))∧w'=w:=by
 obtain⟨r,a⟩:∃ r,r=b % 8:=⟨_,rfl⟩;have d:=O (show dD b=sg pG r by rw [a];rfl);have h:Int.tmod (b:Int) 8=(r:Int):=by rw [Int.tmod_eq_emod_of_nonneg (by omega),a];omega
 have f:(b:Int) % 8=(r:Int):=by rw [a];omega
 have c:=Yo r (by omega) w;clear a;go_in
 go_wp2_with fail;go_ret;exact⟨by rw [d.o];rfl,rfl⟩
theorem iC (g:Nat)(wild:Bool)(iv:Value)(w:World)(s:Gs)(xs:List NV)(nv lv:Value)(h:PL g wild iv w s xs nv lv) :
  Calls Tryz.prog 29 #[.pointer (some ⟨g,0,none⟩)] w fun e w'=>e=.returned (.string (aG (dQ wild s)))∧∃ i,PL g wild iv w' (aM wild s) xs nv i∧Mv g nv.ownBlock w nv.ownBlock w':=by
 have H:=O h;have c3:=h.blk.cell 3;have n:=h.lt;clear h;cases wild
 ·go_in
  go_wp2_with fail;go_ret;exact⟨rfl,_,H.o,Mv.refl⟩
 obtain⟨r,d⟩:∃ r,r=s.nx % 6:=⟨_,rfl⟩;have l:=O (show dQ true s=sg xR r by rw [d];rfl);obtain⟨b,c⟩:∃ b,b=s.nx:=⟨_,rfl⟩;have t:Int.tmod (b:Int) 6=(r:Int):=by rw [Int.tmod_eq_emod_of_nonneg (by omega),d,c];omega
 have q:(b:Int) % 6=(r:Int):=by rw [d,c];omega
 have a:=acR r (by omega);have k:=O c;clear d c;go_in
 go_wp2_with fail;refine (fD g true iv _ s xs nv _ H.o).mono ?_;rintro e w1⟨rfl,i,h1,f⟩;have j:=O h1;have m:=O f;clear h1 f;rw [← k.o]
 replace a:=a w1
 go_wp2_with fail;go_ret;exact⟨by rw [l.o];rfl,_,j.o,m.o⟩
theorem iD (g:Nat)(wild:Bool)(iv:Value)(w:World)(s:Gs)(xs:List NV)(nv lv:Value)(h:PL g wild iv w s xs nv lv)(K:Nat)(x:Bs)(N:Int)(B:Value)(kids:List Int)(l:dw w B kids)(P:s.ns.length≤1000000) :
  Calls Tryz.prog 30 #[.pointer (some ⟨g,0,none⟩),.agg #[.int .u8 K,.string (aG x),.int .i64 N,B,.int .i64 0]] w fun e w'=>e=.returned (.int .i64 s.id)∧∃ gY,PL g wild iv w' (s.put ⟨K,x,N,kids,0⟩) (xs ++ [(⟨K,x,N,kids,0⟩,B)]) gY lv∧Mv g nv.ownBlock w gY.ownBlock w':=by
 obtain⟨A,c,rfl⟩:=dA l;obtain⟨R,m,n,q,r⟩:=info_parts Dz;have F:s.id=(xs.length:Int):=by unfold Gs.id;rw [h.len]
 rw [F];rw [← h.len] at P
 clear F;have H:=O h;clear h;have G:=O l;clear l;have M:=H.o.lt;have c3:=H.o.blk.cell 1;have S:=H.o.blk.frozen 1;obtain⟨d,f⟩:∃ d,d=kids.length:=⟨_,rfl⟩;rw [← f];have I:=O f;clear f;have Q:¬ w.heap.size=g:=by omega
 go_in
 go_wp2_with fail
 go_region_law ((refine step_append_lies _ (by rfl) _ _ _ (by rfl) g 56 R _ 5 64 Tryz.underlying25 m n q r rfl (by omega) _ xs.length (jC xs) (by rfl) (((H.o.own.alloc _).alloc _).drew)
                  ⟨w.heap.size+1,0,none⟩ 1 1 (iE (⟨K,x,N,kids,0⟩,.slice A d c)) (by rfl) (by rfl) (World.news_of_block (cs:=#[.int .u8 K,.string (aG x),.int .i64 N,.slice A d c,.int .i64 0]) (t:=56) (fr:=(0,0)) (wI w _ _)) (by intro u E;simp [iE] at E;rcases E with rfl | rfl | rfl | rfl | rfl <;> rfl)
                  (by omega) (by simp only [maxLen];omega) (by omega) (by simp;omega) (w.heap.size+2) (by simp) ?_;intro T cap w1 b a i D;have y:=((H.o.alloc (.cells #[.int .u8 K,.string (aG x),.int .i64 N,.slice A d c,.int .i64 0] 56)).alloc (.cells #[.int .u8 K,.string (aG x),.int .i64 N,.slice A d c,.int .i64 0] 56)).drew.blk.grown a (fun e=>aW H.o.own H.o.blk (by decide) e.symm);have J:=y.cell 1;have L:=y.frozen 1;clear y))
 all_goals
  have C:=O a;clear a;have k:=O b;clear b;have j:=O i;clear i;go_wp2;go_ret
  refine⟨by (first | rfl|(congr 2;omega)),_,PL.add ((H.o.alloc (.cells #[.int .u8 K,.string (aG x),.int .i64 N,.slice A d c,.int .i64 0] 56)).alloc (.cells #[.int .u8 K,.string (aG x),.int .i64 N,.slice A d c,.int .i64 0] 56)).drew C.o k.o (I.o ▸ own_below G.o (Below.drew (aU (aU (Below.refl _ _) (amL _)) (by simp)))),?_⟩
  refine Mv.ad3 ?_;refine Mv.trans (r1:=nv.ownBlock) (Mv.gT (Mv.gT Mv.refl)).RV (Mv.grown C.o ?_);rcases j.o with e | e
  ·left;rw [e];rfl
  ·right;rw [e];simp [Value.ownBlock]
def xY (wild:Bool)(t:Bs)(s:Gs):Bs:=if wild=true∧s.nx % 4=0 then [40,40] ++ t ++ dQ wild s.tl ++ [41,41] else [40] ++ t ++ [41]
theorem qU (wild:Bool)(I:eO)(s:Gs):ah (mI wild I s)=xY wild (ah I) s:=by
 unfold mI xY;split
 ·rw [List.cons_append,List.cons_append]
  show [] ++ ([40] ++ ([] ++ ([40] ++ ah (I ++ _))))=_
  rw [aX]
  show _=[40,40] ++ ah I ++ dQ wild s.tl ++ [41,41]
  simp [ah,gu]
 ·show [] ++ ([40] ++ ah (I ++ _))=_
  rw [aX];simp [ah,gu]
theorem iR (wild:Bool)(s:Gs):(dQ wild s).length≤8:=by
 unfold dQ;split
 ·have:∀ g ∈ xR,g.length≤8:=by decide
  exact this _ (wh xR _ (by show s.nx % 6 < 6;omega))
 ·decide
theorem TB (g:Nat)(wild:Bool)(iv:Value)(w:World)(s:Gs)(xs:List NV)(nv lv:Value)(h:PL g wild iv w s xs nv lv)(t:Bs)(K:t.length≤1000000000) :
  Calls Tryz.prog 94 #[.pointer (some ⟨g,0,none⟩),.string (aG t)] w fun e w'=>e=.returned (.string (aG (xY wild t s)))∧∃ q,PL g wild iv w' (kI wild s) xs nv q∧Mv g nv.ownBlock w nv.ownBlock w':=by
 have H:=O h;have c3:=h.blk.cell 3;have D:=h.lt;clear h;cases wild
 ·have l1:¬ 9223372036854775807 < 1+t.length:=by omega
  have F:¬ 9223372036854775807 < 1+t.length+1:=by omega
  go_in
  go_wp2_with fail;go_ret;exact⟨congrArg (fun x=>Ending.returned (.string x)) (show _=aG ([40] ++ t ++ [41]) from (by rw [← aj,← aj];rfl)),_,H.o,Mv.refl⟩
 have l1:¬ 9223372036854775807 < 1+t.length:=by omega
 have F:¬ 9223372036854775807 < 1+t.length+1:=by omega
 have L:¬ 9223372036854775807 < 2+t.length:=by omega
 obtain⟨r,i⟩:∃ r,r=s.nx % 4:=⟨_,rfl⟩;have c:=O i;obtain⟨b,f⟩:∃ b,b=s.nx:=⟨_,rfl⟩;have J:Int.tmod (b:Int) 4=(r:Int):=by rw [Int.tmod_eq_emod_of_nonneg (by omega),i,f];omega
 have E:(b:Int) % 4=(r:Int):=by rw [i,f];omega
 have u:=O f;clear i f;by_cases h0:r=0
 ·subst h0;have d:=O (show xY true t s=[40,40] ++ t ++ dQ true s.tl ++ [41,41] by unfold xY;rw [if_pos ⟨rfl,c.o.symm⟩]);have k:=O (show kI true s=aM true s.tl by unfold kI;rw [if_pos rfl,if_pos c.o.symm]);have n:((((0:Nat):Int)) == 0)=true:=rfl;go_in
  go_wp2_with fail;refine (fD g true iv _ s xs nv _ H.o).mono ?_;rintro e w1⟨rfl,q,h1,a⟩;have j:=O h1;have l:=O a;clear h1 a;rw [← u.o];go_wp2_with fail;refine (iC g true iv _ s.tl xs nv _ j.o).mono ?_;rintro e w2⟨rfl,I,h2,y⟩;have A:=O h2;have B:=O (l.o.trans y);clear h2 y;have m:=iR true s.tl
  generalize C:dQ true s.tl=G at m d ⊢
  have M:¬ 9223372036854775807 < 2+t.length+G.length:=by omega
  have N:¬ 9223372036854775807 < 2+t.length+G.length+2:=by omega
  clear C;go_wp2_with fail;go_ret;exact⟨congrArg (fun x=>Ending.returned (.string x)) (show _=aG (xY true t s) from (by rw [d.o,← aj,← aj,← aj];rfl)),_,by rw [k.o];exact A.o,B.o⟩
 ·have d:=O (show xY true t s=[40] ++ t ++ [41] by unfold xY;rw [if_neg (fun h=>h0 (by rw [c.o];exact h.2))]);have k:=O (show kI true s=s.tl by unfold kI;rw [if_pos rfl,if_neg (fun h=>h0 (by rw [c.o];exact h))]);have n:((r:Int) == 0)=false:=by simp;omega
  go_in
  go_wp2_with fail;refine (fD g true iv _ s xs nv _ H.o).mono ?_;rintro e w1⟨rfl,q,h1,a⟩;have j:=O h1;have l:=O a;clear h1 a;rw [← u.o];go_wp2_with fail;go_ret;exact⟨congrArg (fun x=>Ending.returned (.string x)) (show _=aG (xY true t s) from (by rw [d.o,← aj,← aj];rfl)),_,by rw [k.o];exact j.o,l.o⟩
theorem rP (w:World)(ks:List Int)(h:ks.length≤1000:=by first|(simp;done)|(simp;omega)):dw (w.alloc (.cells (intCells ks).toArray 3)) (.slice (some ⟨w.heap.size,0,none⟩) ks.length ks.length) ks:=by
 have:=World.ownsRow_lit (base:=0) (e:=3) (size:=1) w (intCells ks).toArray ks.length (amN _) (by simp only [maxLen];omega) (by simp [intCells])
 unfold dw
 simpa using this
theorem dw.below {w w':World}{v:Value}{ks:List Int}(h:dw w v ks)(a:Below w.heap.size w w'):dw w' v ks:=own_below h a
theorem dw.alloc {w:World}{v:Value}{ks:List Int}(h:dw w v ks)(o:Obj):dw (w.alloc o) v ks:=World.ownsRow.alloc h o
structure Gw (g:Nat) (w:World) (xs:List NV) (nv:Value) (w':World) (xs':List NV) (gY:Value):Prop where
 mv:Mv g nv.ownBlock w gY.ownBlock w'
 new:∃ ys,xs'=xs ++ ys∧∀ y ∈ ys,∀ b,y.2.ownBlock=some b→w.heap.size≤b
section
variable {g:Nat} {w w1 w2:World} {xs xs1 xs2:List NV} {nv ji Cx:Value}
theorem Gw.refl:Gw g w xs nv w xs nv:=⟨Mv.refl,[],by simp,fun y hy=>by cases hy⟩
theorem Gw.size (h:Gw g w xs nv w1 xs1 ji):w.heap.size≤w1.heap.size:=h.mv.size
theorem Gw.trans (h:Gw g w xs nv w1 xs1 ji)(k:Gw g w1 xs1 ji w2 xs2 Cx):Gw g w xs nv w2 xs2 Cx:=by
 obtain⟨i,e,hy⟩:=h.new;obtain⟨j,d,f⟩:=k.new
 refine⟨h.mv.trans k.mv,i ++ j,by rw [d,e,List.append_assoc],fun y a b c=>?_⟩
 rcases List.mem_append.1 a with a | a
 ·exact hy y a b c
 ·exact Nat.le_trans h.size (f y a b c)
theorem Gw.o_ (h:Gw g w xs nv w1 xs1 ji)(a:Below w1.heap.size w1 w2):Gw g w xs nv w2 xs1 ji:=⟨h.mv.o_ a,h.new⟩
theorem Gw.gT {o:Obj}(h:Gw g w xs nv w1 xs1 ji):Gw g w xs nv (w1.alloc o) xs1 ji:=⟨h.mv.gT,h.new⟩
theorem Gw.R_ {b i:Nat}{u:Value}(h:Gw g w xs nv w1 xs1 ji)(a:w.heap.size≤b):Gw g w xs nv (w1.setCell ⟨b,i,none⟩ u) xs1 ji:=⟨h.mv.R_ a,h.new⟩
theorem Gw.ne (h:Gw g w xs nv w1 xs1 ji){b:Nat}(a:b < w.heap.size)(c:some b ≠ nv.ownBlock):some b ≠ ji.ownBlock:=h.mv.ne a c
theorem Gw.blk {b:Nat}{T:TypeId}{cs:Array Value}(h:Gw g w xs nv w1 xs1 ji)(a:bY w b T cs)(c:b ≠ g)(d:some b ≠ nv.ownBlock):bY w1 b T cs:=h.mv.blk a c d
theorem Jv {k n c:Nat}(h:w.heap.size≤k):∀ b,(Value.slice (some ⟨k,0,none⟩) n c).ownBlock=some b→w.heap.size≤b:=fun b a=>by
 simp [Value.ownBlock] at a;omega
theorem pX:∀ b,(Value.slice none 0 0).ownBlock=some b→w.heap.size≤b:=fun b a=>by simp [Value.ownBlock] at a
end
structure LG (w0 w:World) (xs:List NV) (v:Value) (ks:List Int):Prop where
 row:dw w v ks
 lo:∀ b,v.ownBlock=some b→w0.heap.size≤b
 far:∀ x ∈ xs,x.2.ownBlock=none∨x.2.ownBlock ≠ v.ownBlock
section
variable {g:Nat} {wild:Bool} {iv lv:Value} {w0 w w1:World} {s:Gs} {xs xs1:List NV} {nv ji:Value} {v:Value} {ks:List Int}
theorem dw.lt (h:dw w v ks):∀ b,v.ownBlock=some b→b < w.heap.size:=fun b a=>(World.ownsRow.lt h b a).2
theorem LG.below (h:LG w0 w xs v ks)(a:Below w.heap.size w w1):LG w0 w1 xs v ks:=⟨dw.below h.row a,h.lo,h.far⟩
theorem LG.alloc (h:LG w0 w xs v ks)(o:Obj):LG w0 (w.alloc o) xs v ks:=⟨dw.alloc h.row o,h.lo,h.far⟩
theorem LG.mv (h:LG w0 w xs v ks)(q:PL g wild iv w s xs nv lv)(m:Mv g nv.ownBlock w ji.ownBlock w1):LG w0 w1 xs v ks:=⟨q.uy m h.row,h.lo,h.far⟩
theorem LG.mw (h:LG w0 w xs v ks)(q:PL g wild iv w s xs nv lv)(m:Gw g w xs nv w1 xs1 ji):LG w0 w1 xs1 v ks:=by
 refine⟨q.uy m.mv h.row,h.lo,fun x a=>?_⟩
 obtain⟨c,rfl,hy⟩:=m.new;rcases List.mem_append.1 a with a | a
 ·exact h.far x a
 ·rcases h9:x.2.ownBlock with _ | b
  ·exact .inl rfl
  ·right
   intro e;have h1:=hy x a b h9;have h2:=dw.lt h.row b e.symm;omega
theorem LG.put (h:LG w0 w xs v ks)(q:PL g wild iv w s xs nv lv){x:NV}{c:Gs}(a:PL g wild iv w1 c (xs ++ [x]) ji lv)(m:Mv g nv.ownBlock w ji.ownBlock w1)(b:x.2.ownBlock=none∨x.2.ownBlock ≠ v.ownBlock):LG w0 w1 (xs ++ [x]) v ks:=by
 refine⟨q.uy m h.row,h.lo,fun y hy=>?_⟩
 rcases List.mem_append.1 hy with hy | hy
 ·exact h.far y hy
 ·rw [List.mem_singleton.1 hy];exact b
theorem LG.nil (w0 w:World)(xs:List NV):LG w0 w xs (.slice none 0 0) []:=⟨dw.none_ _,fun b a=>by simp [Value.ownBlock] at a,fun x c=>by
 rcases h9:x.2.ownBlock with _ | b
 ·exact .inl rfl
 ·right;simp [Value.ownBlock]⟩
theorem LG.made (q:PL g wild iv w s xs nv lv){k n c:Nat}(f:w.heap.size=k)(h0:w0.heap.size≤k)(h:dw (w.alloc (.cells (intCells ks).toArray 3)) (.slice (some ⟨k,0,none⟩) n c) ks):LG w0 (w.alloc (.cells (intCells ks).toArray 3)) xs (.slice (some ⟨k,0,none⟩) n c) ks:=by
 refine⟨h,fun b a=>by simp [Value.ownBlock] at a;omega,fun x d=>?_⟩
 rcases h9:x.2.ownBlock with _ | b
 ·exact .inl rfl
 ·right
  intro e;have h1:=dw.lt (q.kids x d) b h9;simp [Value.ownBlock] at e
  omega
theorem LG.empty (q:PL g wild iv w s xs nv lv){k:Nat}(a:w.heap.size=k)(h0:w0.heap.size≤k):LG w0 (w.alloc (.cells #[] 3)) xs (.slice (some ⟨k,0,none⟩) 0 0) []:=by
 subst a;exact LG.made (ks:=[]) (n:=0) (c:=0) q rfl h0 (World.ownsRow_lit (base:=0) (e:=3) (size:=1) w #[] 0 (amN _) (by simp [maxLen]) rfl)
theorem LG.apart (h:LG w0 w xs v ks){k n c:Nat}(a:w.heap.size≤k):(Value.slice (some ⟨k,0,none⟩) n c).ownBlock=none∨(Value.slice (some ⟨k,0,none⟩) n c).ownBlock ≠ v.ownBlock:=by
 right
 intro e
 have:=dw.lt h.row k (by rw [← e];rfl)
 omega
theorem LG.grow (h:LG w0 w xs v ks){a cap:Nat}{k:Int}(q:PL g wild iv w s xs nv lv)(d:w1.ownsRow 0 3 1 (.slice (some ⟨a,0,none⟩) (ks.length+1) cap) (ks.length+1) (intCells ks ++ [.int .i64 k]))(c:v.ownBlock=some a∨a=w.heap.size)(h0:w0.heap.size≤w.heap.size):LG w0 w1 xs (.slice (some ⟨a,0,none⟩) (ks.length+1) cap) (ks ++ [k]):=by
 refine⟨?_,fun b f=>?_,fun x i=>?_⟩
 ·unfold dw;rw [amQ,jf];exact d
 ·have f:a=b:=by simpa [Value.ownBlock] using f
  subst f;rcases c with e | e
  ·exact h.lo _ e
  ·omega
 ·rcases c with e | e
  ·have:=h.far x i
   rw [e] at this
   simpa [Value.ownBlock] using this
  ·rcases h9:x.2.ownBlock with _ | b
   ·exact .inl rfl
   ·right
    intro j;have h1:=dw.lt (q.kids x i) b h9;simp [Value.ownBlock] at j
    omega
theorem PL.grow (q:PL g wild iv w s xs nv lv)(h:LG w0 w xs v ks)(a:w.grownBy w1 v.ownBlock)(h0:∀ b,v.ownBlock=some b→g≤b):PL g wild iv w1 s xs nv lv :=
 ⟨q.blk.grown a (fun e=>aW h.row q.blk (by decide) e.symm),q.seed.below ((Below.refl _ _).grown a (amM q.lt) h0) (amM q.lt),q.own.kept a (eB q.own h.row (by decide)),fun x c=>World.ownsRow.kept (q.kids x c) a (h.far x c),q.ns,q.pow.on ((Below.refl _ _).grown a (amM q.lt) h0)⟩
theorem Gw.grow (m:Gw g w0 xs nv w xs1 ji)(h:LG w0 w xs1 v ks)(a:w.grownBy w1 v.ownBlock):Gw g w0 xs nv w1 xs1 ji :=
 ⟨⟨a.os.trans m.mv.os,a.tape.trans m.mv.tape,a.output.trans m.mv.output,Nat.le_trans m.size a.size,fun b d c f=>(a.block b (amY d m.size) (fun e=>by have:=h.lo b e.symm;omega)).trans (m.mv.block b d c f),m.mv.tgt⟩,m.new⟩
theorem LG.blk (h:LG w0 w xs v ks){b:Nat}{cs:Array Value}(a:bY w b 56 cs)(c:w.grownBy w1 v.ownBlock):bY w1 b 56 cs:=a.grown c (fun e=>aW h.row a (by decide) e.symm)
end
