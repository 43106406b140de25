/-
  A part of the proof.
-/
import Derived.Test.YtalghggmkojblaaGreatDoorS30
import Derived.Test.YtalghggmkojblaaGreatDoorS31
set_option linter.all false
set_option maxRecDepth 100000
set_option maxHeartbeats 4000000
namespace Go.Proofs.YtalghggmkojblaaGreatDoor
section
open Go.RowKit Mist
attribute [local go_sem] ak aN aV aF aj
theorem acV (x:Bs)(n a:Int)(N:Option Addr)(R P:Nat)(w:World):Calls Tryz.prog 114 #[.agg #[.int .u8 0,.string (aG x),.int .i64 n,.slice N R P,.int .i64 a]] w (iQ (Mist.shapeOf 0 n) w):=by
 have V:=O (show Mist.shapeOf 0 n=none from rfl);go_in
 go_wp2_with fail;refine (cO _ _).mono ?_;rintro e w1⟨rfl,m⟩;go_wp2_with fail;refine (cO _ _).mono ?_;rintro e w2⟨rfl,q⟩;go_wp2_with fail;refine (cO _ _).mono ?_;rintro e t⟨rfl,r⟩;have F:=O (jU m q r);have hz:=F.o.1;clear m q r;go_upto_region 5 with (fail)
 obtain⟨w5,Q,f,u,qZ,Ms,hs7,Qv,-,k,-,-,-⟩:=F.o.2;rw [Q];clear Q hz F;have y:=k.o.cell 0;have A:=k.o.cell 1;have B:=k.o.cell 2;have Y:=k.o.lt;have C:=u.o.cell 0;have p2:=u.o.cell 2;have I:=f.o.cell 0;have J:=f.o.cell 1;have L:=f.o.cell 2;have M:=f.o.cell 3;have r0:=f.o.frozen 0;have r1:=f.o.frozen 1;have r2:=f.o.frozen 2;have T:=f.o.frozen 3;go_wp2_with fail;have Z:=u.o.lt;have X:w.heap.size ≠ t.heap.size:=fun e=>f.o.ne_ k.o (by decide) (by rw [e])
 refine wp_region_noPanic ?_;refine wp_region_held_drew (S:=fun D=>D.cell? ⟨w.heap.size,0,none⟩=some (.int .u8 0)∧D.cell? ⟨t.heap.size+1,0,none⟩=some (.int .i64 2)∧D.cell? ⟨t.heap.size+1,1,none⟩=some (.int .i64 2)∧D.cell? ⟨t.heap.size+1,2,none⟩=some (.func (.func 142) #[] #[])) (by kernel_rfl) ⟨C,y,A,B⟩ (fun b=>?_);refine cB 0 rfl b ?_;simp only [Act.put,amC,amD,amE];refine cB 1 rfl b ?_;simp only [Act.put,amC,amD,amE];refine cB 4 rfl b ?_;simp only [Act.put,amC,amD,amE];refine cB 5 rfl b ?_;simp only [Act.put,amC,amD,amE];refine cB 6 rfl b ?_;simp only [Act.put,amC,amD,amE];refine wpAnyH_ready (rs:=[2]) (by kernel_rfl) (by simp) ?_;refine gM (.s (.s .z)) (fun K l=>?_);go_simp;refine l.out _ _ ?_ (fun U=>?_)
 ·(refine⟨?_,?_,?_,?_⟩ <;> go_keep)
 (try simp only [Act.put,amC,amD,amE])
 refine wpAnyH_ready (rs:=[3]) (by kernel_rfl) (by simp) ?_;refine gM (.s (.s (.s .z))) (fun K l=>?_);go_simp;refine (BZ _ _ _ _).mono ?_;rintro e E⟨rfl,d⟩;have Ux:=O d;have G:=O (show bY E w.heap.size 56 #[.int .u8 0,.string (aG x),.int .i64 n,.slice N R P,.int .i64 a] from bY.below (by repeat (first|(with_reducible exact u.o)|(with_reducible refine bY.alloc ?_ _)|(with_reducible refine bY.drew ?_))) d (by first | omega|(simp;omega)));have H:=O (show bY E (t.heap.size+1) 185 #[.int .i64 2,.int .i64 2,.func (.func 142) #[] #[]] from bY.below (by repeat (first|(with_reducible exact k.o)|(with_reducible refine bY.alloc ?_ _)|(with_reducible refine bY.drew ?_))) d (by first | omega|(simp;omega)));have j:=O (show bY E (w.heap.size+1) 163 #[.bool false,.int .i64 0,.int .i64 0,.slice none 0 0] from bY.below (by repeat (first|(with_reducible exact f.o)|(with_reducible refine bY.alloc ?_ _)|(with_reducible refine bY.drew ?_))) d (by first | omega|(simp;omega)));have sI:=O (show Below w.heap.size w E from Below.trans (by repeat (first|(with_reducible exact qZ.o)|(with_reducible refine aU ?_ ?_)|(with_reducible refine Below.drew ?_) | omega|(simp;omega))) (d.mono (by first | omega|(simp;omega))));clear d C p2 I J L M r0 r1 r2 T y A B;have C:=G.o.cell 0;have y:=H.o.cell 0;have A:=H.o.cell 1;have B:=H.o.cell 2;have I:=j.o.cell 0;have J:=j.o.cell 1;have L:=j.o.cell 2;have M:=j.o.cell 3;have r0:=j.o.frozen 0;have r1:=j.o.frozen 1;have r2:=j.o.frozen 2;have T:=j.o.frozen 3;have hs9:=j.o.lt;clear b U;refine l.out _ _ ⟨C,y,A,B⟩ (fun g=>?_)
 (try simp only [Act.put,amC,amD,amE])
 refine cB 7 rfl g ?_;simp only [Act.put,amC,amD,amE];refine wW (i:=8) (.s (.s (.s (.s (.s (.s (.s (.s .z)))))))) (by kernel_rfl) (by kernel_rfl) (by kernel_rfl) (fun _ _ _ h=>h) (by rfl) g ?_;simp only [Act.put,amC,amD,amE];refine wW (i:=9) (.s (.s (.s (.s (.s (.s (.s (.s (.s .z))))))))) (by kernel_rfl) (by kernel_rfl) (by kernel_rfl) (fun _ _ _ h=>h) (by rfl) g ?_;simp only [Act.put,amC,amD,amE];refine wW (i:=10) (.s (.s (.s (.s (.s (.s (.s (.s (.s (.s .z)))))))))) (by kernel_rfl) (by kernel_rfl) (by kernel_rfl) (fun _ _ _ h=>h) (by rfl) g ?_;simp only [Act.put,amC,amD,amE];refine kW (i:=11) (.s (.s (.s (.s (.s (.s (.s (.s (.s (.s (.s .z))))))))))) (by kernel_rfl) (by kernel_rfl) (by kernel_rfl) (fun _ _ _ h=>h) (v:=?_) ⟨by rfl,?_⟩ g ?_;rotate_left
 ·(intro w0 c;(try dsimp only at c);go_split_ands;go_simp;try with_reducible rfl)
 simp only [Act.put,amC,amD,amE];refine kW (i:=12) (.s (.s (.s (.s (.s (.s (.s (.s (.s (.s (.s (.s .z)))))))))))) (by kernel_rfl) (by kernel_rfl) (by kernel_rfl) (fun _ _ _ h=>h) (v:=?_) ⟨by rfl,?_⟩ g ?_;rotate_left
 ·(intro w0 c;(try dsimp only at c);go_split_ands;go_simp;try with_reducible rfl)
 simp only [Act.put,amC,amD,amE];refine kW (i:=13) (.s (.s (.s (.s (.s (.s (.s (.s (.s (.s (.s (.s (.s .z))))))))))))) (by kernel_rfl) (by kernel_rfl) (by kernel_rfl) (fun _ _ _ h=>h) (v:=?_) ⟨by rfl,?_⟩ g ?_;rotate_left
 ·(intro w0 c;(try dsimp only at c);go_split_ands;go_simp;try with_reducible rfl)
 simp only [Act.put,amC,amD,amE];refine kW (i:=14) (.s (.s (.s (.s (.s (.s (.s (.s (.s (.s (.s (.s (.s (.s .z)))))))))))))) (by kernel_rfl) (by kernel_rfl) (by kernel_rfl) (fun _ _ _ h=>h) (v:=?_) ⟨by rfl,?_⟩ g ?_;rotate_left
 ·(intro w0 c;(try dsimp only at c);go_split_ands;go_simp;try with_reducible rfl)
 simp only [Act.put,amC,amD,amE];refine kW (i:=15) (.s (.s (.s (.s (.s (.s (.s (.s (.s (.s (.s (.s (.s (.s (.s .z))))))))))))))) (by kernel_rfl) (by kernel_rfl) (by kernel_rfl) (fun _ _ _ h=>h) (v:=?_) ⟨by rfl,?_⟩ g ?_;rotate_left
 ·(intro w0 c;(try dsimp only at c);go_split_ands;go_simp;try with_reducible rfl)
 simp only [Act.put,amC,amD,amE];refine kW (i:=16) (.s (.s (.s (.s (.s (.s (.s (.s (.s (.s (.s (.s (.s (.s (.s (.s .z)))))))))))))))) (by kernel_rfl) (by kernel_rfl) (by kernel_rfl) (fun _ _ _ h=>h) (v:=?_) ⟨by rfl,?_⟩ g ?_;rotate_left
 ·(intro w0 c;(try dsimp only at c);go_split_ands;go_simp;try with_reducible rfl)
 simp only [Act.put,amC,amD,amE];refine wpAnyH_ready (rs:=[17]) (by kernel_rfl) (by simp) ?_;refine gM (.s (.s (.s (.s (.s (.s (.s (.s (.s (.s (.s (.s (.s (.s (.s (.s (.s .z))))))))))))))))) (fun K l=>?_);go_simp;refine l.out _ _ ?_ (fun W=>?_)
 ·(refine⟨?_,?_,?_,?_⟩ <;> go_keep)
 (try simp only [Act.put,amC,amD,amE])
 refine kW (i:=18) (.s (.s (.s (.s (.s (.s (.s (.s (.s (.s (.s (.s (.s (.s (.s (.s (.s (.s .z)))))))))))))))))) (by kernel_rfl) (by kernel_rfl) (by kernel_rfl) (fun _ _ _ h=>h) (v:=?_) ⟨by rfl,?_⟩ W ?_;rotate_left
 ·(intro w0 c;(try dsimp only at c);go_split_ands;go_simp;try with_reducible rfl)
 simp only [Act.put,amC,amD,amE];refine wpAnyH_done (by kernel_rfl) (NoPanic.normal ?_) _;go_wp2_with fail;refine bodyPost_ret (v:=.tuple #[.agg #[.bool false,.int .i64 0,.int .i64 0,.slice (some ⟨w5.heap.size,0,none⟩) 1 1],.bool false]) (by simp [results,Tryz.f114,go_sem,I,J,L,M]) rfl ?_
 refine⟨_,_,_,_,_,_,_,rfl,?_,?_⟩
 ·repeat (first|(with_reducible exact sI.o)|(with_reducible refine gQ ?_ ?_)|(with_reducible refine aU ?_ ?_)|(with_reducible refine Below.drew ?_) | omega|(simp;omega))
 ·rw [V.o]
end
section
open Go.RowKit Mist
theorem P5 (k:Nat)(x:Bs)(n a:Int)(b:Option Addr)(d c:Nat)(w:World):Calls Tryz.prog 114 #[.agg #[.int .u8 k,.string (aG x),.int .i64 n,.slice b d c,.int .i64 a]] w (iQ (Mist.shapeOf k n) w):=by
 have e:k=0∨((27≤k∧k≤29)∨(35≤k∧k≤39)∨47≤k)∨k=1∨k=2∨k=3∨k=32∨k=45∨k=4∨k=5∨(6≤k∧k≤18)∨k=23∨k=19∨k=20∨k=21∨k=22∨k=25∨k=43∨k=44∨k=24∨k=26∨k=30∨k=31∨k=33∨k=34∨k=40∨k=41∨k=42∨k=46:=by omega
 rcases e with rfl | h | rfl | rfl | rfl | rfl | rfl | rfl | rfl | h | rfl | rfl | rfl | rfl | rfl | rfl | rfl | rfl | rfl | rfl | rfl | rfl | rfl | rfl | rfl | rfl | rfl | rfl
 ·exact acV x n a b d c w
 ·exact Ua k x n a b d c w h
 ·exact acW x n a b d c w
 ·exact acX x n a b d c w
 ·exact acY x n a b d c w
 ·exact YC x n a b d c w
 ·exact YK x n a b d c w
 ·exact acZ x n a b d c w
 ·exact ac0 x n a b d c w
 ·exact ac1 k x n a b d c w h
 ·exact Yw x n a b d c w
 ·exact Yr x n a b d c w
 ·exact Yt x n a b d c w
 ·exact Yu x n a b d c w
 ·exact Yv x n a b d c w
 ·exact Yy x n a b d c w
 ·exact YI x n a b d c w
 ·exact YJ x n a b d c w
 ·exact Yx x n a b d c w
 ·exact Yz x n a b d c w
 ·exact YA x n a b d c w
 ·exact YB x n a b d c w
 ·exact YD x n a b d c w
 ·exact YE x n a b d c w
 ·exact YF x n a b d c w
 ·exact YG x n a b d c w
 ·exact YH x n a b d c w
 ·exact YL x n a b d c w
end
