/-
  A part of the proof.
-/
import Derived.Test.YtajfdjikimiapaaGreatDoorS21
set_option linter.all false
set_option maxRecDepth 100000
set_option maxHeartbeats 4000000
namespace Go.Proofs.YtajfdjikimiapaaGreatDoor
section
open Go.RowKit Mist
attribute [local go_sem] au aN aV aM aG
theorem uH {P:Program}{d:Region.Mode}{l:List Oper}{Q:Exit→Act→World→Prop}{S:World→Prop}{i:Nat}{e:Oper}{b:Nat}{listed:Array Bool}{a:Act}{w:World}(hi:Zf l i e)
  (j:Region.noSelect l.toArray=true) (f:Region.free d l.toArray listed i=true) (g:(Region.ready d l.toArray listed).contains i=true)
  (hQ:∀ c a w,Q (.panic c) (a.put e.dst undef) w→Q (.panic c) a w) (hy:Region.wanted e (yielded l.toArray a.tmps)=false) (hS:S w)
  (h:wpAnyH P d l.toArray Q S b (listed.setIfInBounds i true) (a.put e.dst undef) w):wpAnyH P d l.toArray Q S (b+1) listed a w :=
 wpAnyH_take hi.get j f g hQ (Or.inr ⟨hy,rfl⟩) hS h
theorem YN (k:Nat)(x:Bs)(n a:Int)(J:Option Addr)(N L:Nat)(w:World)(h:6≤k∧k≤18):Calls Tryz.prog 158 #[.agg #[.int .u8 k,.string (aU x),.int .i64 n,.slice J N L,.int .i64 a]] w (dH (Mist.shapeOf k n) w):=by
 have e1:((k:Int) == 1)=false:=by rw [air];omega
 have e2:((k:Int) == 2)=false:=by rw [air];omega
 have e3:((k:Int) == 3)=false:=by rw [air];omega
 have e32:((k:Int) == 32)=false:=by rw [air];omega
 have e45:((k:Int) == 45)=false:=by rw [air];omega
 have e4:((k:Int) == 4)=false:=by rw [air];omega
 have e5:((k:Int) == 5)=false:=by rw [air];omega
 have W:((k:Int) == 19)=false:=by rw [air];omega
 have X:((k:Int) == 20)=false:=by rw [air];omega
 have Y:((k:Int) == 21)=false:=by rw [air];omega
 have Z:((k:Int) == 22)=false:=by rw [air];omega
 have e25:((k:Int) == 25)=false:=by rw [air];omega
 have e43:((k:Int) == 43)=false:=by rw [air];omega
 have e44:((k:Int) == 44)=false:=by rw [air];omega
 have e24:((k:Int) == 24)=false:=by rw [air];omega
 have e26:((k:Int) == 26)=false:=by rw [air];omega
 have e30:((k:Int) == 30)=false:=by rw [air];omega
 have e31:((k:Int) == 31)=false:=by rw [air];omega
 have e33:((k:Int) == 33)=false:=by rw [air];omega
 have e34:((k:Int) == 34)=false:=by rw [air];omega
 have e40:((k:Int) == 40)=false:=by rw [air];omega
 have e41:((k:Int) == 41)=false:=by rw [air];omega
 have e42:((k:Int) == 42)=false:=by rw [air];omega
 have e46:((k:Int) == 46)=false:=by rw [air];omega
 have a1:decide ((6:Int)≤(k:Int))=true:=aiG (by omega);have a2:decide ((k:Int)≤(18:Int))=true:=aiG (by omega);have R:=O (show Mist.shapeOf k n=some ⟨false,0,0,[⟨2,2,.expr⟩]⟩ from (by unfold Mist.shapeOf;repeat (first | rw [if_neg (by omega)] | rw [if_pos (by omega)])));go_in
 go_wp2_with fail;refine (aQ _ _).mono ?_;rintro e w1⟨rfl,q⟩;go_wp2_with fail;refine (aQ _ _).mono ?_;rintro e w2⟨rfl,r⟩;go_wp2_with fail;refine (aQ _ _).mono ?_;rintro e u⟨rfl,t⟩;have D:=O (dY q r t);have hz:=D.o.1;clear q r t;go_upto_region 5 with (fail)
 obtain⟨P,M,f,y,kI,vY,hs7,yP,-,l,-,-,-⟩:=D.o.2;rw [M];clear M hz D;have o0:=l.o.cell 0;have o1:=l.o.cell 1;have o2:=l.o.cell 2;have Qe:=l.o.lt;have A:=y.o.cell 0;have p2:=y.o.cell 2;have F:=f.o.cell 0;have G:=f.o.cell 1;have H:=f.o.cell 2;have I:=f.o.cell 3;have r0:=f.o.frozen 0;have r1:=f.o.frozen 1;have r2:=f.o.frozen 2;have r3:=f.o.frozen 3;go_wp2_with fail;have hp5:=y.o.lt;have hne:w.heap.size ≠ u.heap.size:=fun e=>f.o.Zk l.o (by decide) (by rw [e])
 refine wp_region_noPanic ?_;refine wp_region_held_drew (S:=fun B=>B.cell? ⟨w.heap.size,0,none⟩=some (.int .u8 k)∧B.cell? ⟨u.heap.size+1,0,none⟩=some (.int .i64 2)∧B.cell? ⟨u.heap.size+1,1,none⟩=some (.int .i64 2)∧B.cell? ⟨u.heap.size+1,2,none⟩=some (.func (.func 120) #[] #[])) (by kernel_rfl) ⟨A,o0,o1,o2⟩ (fun b=>?_);refine aO 0 rfl b ?_;simp only [Act.put,ail,ain,aio];refine aO 1 rfl b ?_;simp only [Act.put,ail,ain,aio];refine aO 4 rfl b ?_;simp only [Act.put,ail,ain,aio];refine aO 5 rfl b ?_;simp only [Act.put,ail,ain,aio];refine aO 6 rfl b ?_;simp only [Act.put,ail,ain,aio];refine wpAnyH_ready (rs:=[2]) (by kernel_rfl) (by simp) ?_;refine fO (.s (.s .z)) (fun K m=>?_);go_simp;refine m.out _ _ ?_ (fun Q=>?_)
 ·(refine⟨?_,?_,?_,?_⟩ <;> go_keep)
 (try simp only [Act.put,ail,ain,aio])
 refine wpAnyH_ready (rs:=[3]) (by kernel_rfl) (by simp) ?_;refine fO (.s (.s (.s .z))) (fun K m=>?_);go_simp;refine (qg _ _ _ _).mono ?_;rintro e C⟨rfl,d⟩;have V:=O d;have sD:=O (show aZ C w.heap.size 39 #[.int .u8 k,.string (aU x),.int .i64 n,.slice J N L,.int .i64 a] from aZ.below (by repeat (first|(with_reducible exact y.o)|(with_reducible refine aZ.alloc ?_ _)|(with_reducible refine aZ.drew ?_))) d (by first | omega|(simp;omega)));have E:=O (show aZ C (u.heap.size+1) 189 #[.int .i64 2,.int .i64 2,.func (.func 120) #[] #[]] from aZ.below (by repeat (first|(with_reducible exact l.o)|(with_reducible refine aZ.alloc ?_ _)|(with_reducible refine aZ.drew ?_))) d (by first | omega|(simp;omega)));have j:=O (show aZ C (w.heap.size+1) 172 #[.bool false,.int .i64 0,.int .i64 0,.slice none 0 0] from aZ.below (by repeat (first|(with_reducible exact f.o)|(with_reducible refine aZ.alloc ?_ _)|(with_reducible refine aZ.drew ?_))) d (by first | omega|(simp;omega)));have jS:=O (show Below w.heap.size w C from Below.trans (by repeat (first|(with_reducible exact kI.o)|(with_reducible refine aF ?_ ?_)|(with_reducible refine Below.drew ?_) | omega|(simp;omega))) (d.mono (by first | omega|(simp;omega))));clear d A p2 F G H I r0 r1 r2 r3 o0 o1 o2;have A:=sD.o.cell 0;have o0:=E.o.cell 0;have o1:=E.o.cell 1;have o2:=E.o.cell 2;have F:=j.o.cell 0;have G:=j.o.cell 1;have H:=j.o.cell 2;have I:=j.o.cell 3;have r0:=j.o.frozen 0;have r1:=j.o.frozen 1;have r2:=j.o.frozen 2;have r3:=j.o.frozen 3;have hs9:=j.o.lt;clear b Q;refine m.out _ _ ⟨A,o0,o1,o2⟩ (fun g=>?_)
 (try simp only [Act.put,ail,ain,aio])
 refine aO 7 rfl g ?_;simp only [Act.put,ail,ain,aio];refine aO 8 rfl g ?_;simp only [Act.put,ail,ain,aio];refine aO 9 rfl g ?_;simp only [Act.put,ail,ain,aio];refine jY (i:=10) (.s (.s (.s (.s (.s (.s (.s (.s (.s (.s .z)))))))))) (by kernel_rfl) (by kernel_rfl) (by kernel_rfl) (fun _ _ _ h=>h) (v:=?_) ⟨by rfl,?_⟩ g ?_;rotate_left
 ·(intro w0 c;(try dsimp only at c);go_split_ands;go_simp;try with_reducible rfl)
 simp only [Act.put,ail,ain,aio];refine jY (i:=11) (.s (.s (.s (.s (.s (.s (.s (.s (.s (.s (.s .z))))))))))) (by kernel_rfl) (by kernel_rfl) (by kernel_rfl) (fun _ _ _ h=>h) (v:=?_) ⟨by rfl,?_⟩ g ?_;rotate_left
 ·(intro w0 c;(try dsimp only at c);go_split_ands;go_simp;try with_reducible rfl)
 simp only [Act.put,ail,ain,aio];refine jY (i:=12) (.s (.s (.s (.s (.s (.s (.s (.s (.s (.s (.s (.s .z)))))))))))) (by kernel_rfl) (by kernel_rfl) (by kernel_rfl) (fun _ _ _ h=>h) (v:=?_) ⟨by rfl,?_⟩ g ?_;rotate_left
 ·(intro w0 c;(try dsimp only at c);go_split_ands;go_simp;try with_reducible rfl)
 simp only [Act.put,ail,ain,aio];refine uH (i:=13) (.s (.s (.s (.s (.s (.s (.s (.s (.s (.s (.s (.s (.s .z))))))))))))) (by kernel_rfl) (by kernel_rfl) (by kernel_rfl) (fun _ _ _ h=>h) (by rfl) g ?_;simp only [Act.put,ail,ain,aio];refine uH (i:=14) (.s (.s (.s (.s (.s (.s (.s (.s (.s (.s (.s (.s (.s (.s .z)))))))))))))) (by kernel_rfl) (by kernel_rfl) (by kernel_rfl) (fun _ _ _ h=>h) (by rfl) g ?_;simp only [Act.put,ail,ain,aio];refine uH (i:=15) (.s (.s (.s (.s (.s (.s (.s (.s (.s (.s (.s (.s (.s (.s (.s .z))))))))))))))) (by kernel_rfl) (by kernel_rfl) (by kernel_rfl) (fun _ _ _ h=>h) (by rfl) g ?_;simp only [Act.put,ail,ain,aio];refine jY (i:=16) (.s (.s (.s (.s (.s (.s (.s (.s (.s (.s (.s (.s (.s (.s (.s (.s .z)))))))))))))))) (by kernel_rfl) (by kernel_rfl) (by kernel_rfl) (fun _ _ _ h=>h) (v:=?_) ⟨by rfl,?_⟩ g ?_;rotate_left
 ·(intro w0 c;(try dsimp only at c);go_split_ands;go_simp;try with_reducible rfl)
 simp only [Act.put,ail,ain,aio];refine wpAnyH_ready (rs:=[17]) (by kernel_rfl) (by simp) ?_;refine fO (.s (.s (.s (.s (.s (.s (.s (.s (.s (.s (.s (.s (.s (.s (.s (.s (.s .z))))))))))))))))) (fun K m=>?_);go_simp;refine m.out _ _ ?_ (fun U=>?_)
 ·(refine⟨?_,?_,?_,?_⟩ <;> go_keep)
 (try simp only [Act.put,ail,ain,aio])
 refine jY (i:=18) (.s (.s (.s (.s (.s (.s (.s (.s (.s (.s (.s (.s (.s (.s (.s (.s (.s (.s .z)))))))))))))))))) (by kernel_rfl) (by kernel_rfl) (by kernel_rfl) (fun _ _ _ h=>h) (v:=?_) ⟨by rfl,?_⟩ U ?_;rotate_left
 ·(intro w0 c;(try dsimp only at c);go_split_ands;go_simp;try with_reducible rfl)
 simp only [Act.put,ail,ain,aio];refine wpAnyH_done (by kernel_rfl) (NoPanic.normal ?_) _;go_wp2_with fail;refine bodyPost_ret (v:=.tuple #[.agg #[.bool false,.int .i64 0,.int .i64 0,.slice (some ⟨P.heap.size,0,none⟩) 1 1],.bool true]) (by simp [results,Tryz.f158,go_sem,F,G,H,I]) rfl ?_
 refine⟨_,_,_,_,_,_,_,rfl,?_,?_⟩
 ·repeat (first|(with_reducible exact jS.o)|(with_reducible refine dS ?_ ?_)|(with_reducible refine aF ?_ ?_)|(with_reducible refine Below.drew ?_) | omega|(simp;omega))
 ·rw [R.o]
  refine⟨rfl,rfl,rfl,rfl,rfl,aiv _,?_⟩
  refine dw.one (T:=189) ?_;have hq:=(aZ.drew (aZ.new P 189 #[.int .i64 2,.int .i64 2,.func (.func 120) #[] #[]])).below V.o (by simp)
  repeat (first|(with_reducible refine aZ.far ?_ ?_ _)|(with_reducible refine aZ.drew ?_) | exact hq|(simp;omega))
theorem YH (x:Bs)(n a:Int)(I:Option Addr)(M J:Nat)(w:World):Calls Tryz.prog 158 #[.agg #[.int .u8 0,.string (aU x),.int .i64 n,.slice I M J,.int .i64 a]] w (dH (Mist.shapeOf 0 n) w):=by
 have P:=O (show Mist.shapeOf 0 n=none from rfl);go_in
 go_wp2_with fail;refine (aQ _ _).mono ?_;rintro e w1⟨rfl,m⟩;go_wp2_with fail;refine (aQ _ _).mono ?_;rintro e w2⟨rfl,q⟩;go_wp2_with fail;refine (aQ _ _).mono ?_;rintro e t⟨rfl,r⟩;have C:=O (dY m q r);have W:=C.o.1;clear m q r;go_upto_region 5 with (fail)
 obtain⟨w5,L,f,u,Y,vY,U,yP,-,k,-,-,-⟩:=C.o.2;rw [L];clear L W C;have o0:=k.o.cell 0;have o1:=k.o.cell 1;have o2:=k.o.cell 2;have Qe:=k.o.lt;have y:=u.o.cell 0;have Z:=u.o.cell 2;have E:=f.o.cell 0;have F:=f.o.cell 1;have G:=f.o.cell 2;have H:=f.o.cell 3;have r0:=f.o.frozen 0;have r1:=f.o.frozen 1;have r2:=f.o.frozen 2;have r3:=f.o.frozen 3;go_wp2_with fail;have T:=u.o.lt;have R:w.heap.size ≠ t.heap.size:=fun e=>f.o.Zk k.o (by decide) (by rw [e])
 refine wp_region_noPanic ?_;refine wp_region_held_drew (S:=fun A=>A.cell? ⟨w.heap.size,0,none⟩=some (.int .u8 0)∧A.cell? ⟨t.heap.size+1,0,none⟩=some (.int .i64 2)∧A.cell? ⟨t.heap.size+1,1,none⟩=some (.int .i64 2)∧A.cell? ⟨t.heap.size+1,2,none⟩=some (.func (.func 120) #[] #[])) (by kernel_rfl) ⟨y,o0,o1,o2⟩ (fun b=>?_);refine aO 0 rfl b ?_;simp only [Act.put,ail,ain,aio];refine aO 1 rfl b ?_;simp only [Act.put,ail,ain,aio];refine aO 4 rfl b ?_;simp only [Act.put,ail,ain,aio];refine aO 5 rfl b ?_;simp only [Act.put,ail,ain,aio];refine aO 6 rfl b ?_;simp only [Act.put,ail,ain,aio];refine wpAnyH_ready (rs:=[2]) (by kernel_rfl) (by simp) ?_;refine fO (.s (.s .z)) (fun K l=>?_);go_simp;refine l.out _ _ ?_ (fun N=>?_)
 ·(refine⟨?_,?_,?_,?_⟩ <;> go_keep)
 (try simp only [Act.put,ail,ain,aio])
 refine wpAnyH_ready (rs:=[3]) (by kernel_rfl) (by simp) ?_;refine fO (.s (.s (.s .z))) (fun K l=>?_);go_simp;refine (qg _ _ _ _).mono ?_;rintro e B⟨rfl,d⟩;have Pv:=O d;have sD:=O (show aZ B w.heap.size 39 #[.int .u8 0,.string (aU x),.int .i64 n,.slice I M J,.int .i64 a] from aZ.below (by repeat (first|(with_reducible exact u.o)|(with_reducible refine aZ.alloc ?_ _)|(with_reducible refine aZ.drew ?_))) d (by first | omega|(simp;omega)));have D:=O (show aZ B (t.heap.size+1) 189 #[.int .i64 2,.int .i64 2,.func (.func 120) #[] #[]] from aZ.below (by repeat (first|(with_reducible exact k.o)|(with_reducible refine aZ.alloc ?_ _)|(with_reducible refine aZ.drew ?_))) d (by first | omega|(simp;omega)));have j:=O (show aZ B (w.heap.size+1) 172 #[.bool false,.int .i64 0,.int .i64 0,.slice none 0 0] from aZ.below (by repeat (first|(with_reducible exact f.o)|(with_reducible refine aZ.alloc ?_ _)|(with_reducible refine aZ.drew ?_))) d (by first | omega|(simp;omega)));have X:=O (show Below w.heap.size w B from Below.trans (by repeat (first|(with_reducible exact Y.o)|(with_reducible refine aF ?_ ?_)|(with_reducible refine Below.drew ?_) | omega|(simp;omega))) (d.mono (by first | omega|(simp;omega))));clear d y Z E F G H r0 r1 r2 r3 o0 o1 o2;have y:=sD.o.cell 0;have o0:=D.o.cell 0;have o1:=D.o.cell 1;have o2:=D.o.cell 2;have E:=j.o.cell 0;have F:=j.o.cell 1;have G:=j.o.cell 2;have H:=j.o.cell 3;have r0:=j.o.frozen 0;have r1:=j.o.frozen 1;have r2:=j.o.frozen 2;have r3:=j.o.frozen 3;have V:=j.o.lt;clear b N;refine l.out _ _ ⟨y,o0,o1,o2⟩ (fun g=>?_)
 (try simp only [Act.put,ail,ain,aio])
 refine aO 7 rfl g ?_;simp only [Act.put,ail,ain,aio];refine uH (i:=8) (.s (.s (.s (.s (.s (.s (.s (.s .z)))))))) (by kernel_rfl) (by kernel_rfl) (by kernel_rfl) (fun _ _ _ h=>h) (by rfl) g ?_;simp only [Act.put,ail,ain,aio];refine uH (i:=9) (.s (.s (.s (.s (.s (.s (.s (.s (.s .z))))))))) (by kernel_rfl) (by kernel_rfl) (by kernel_rfl) (fun _ _ _ h=>h) (by rfl) g ?_;simp only [Act.put,ail,ain,aio];refine uH (i:=10) (.s (.s (.s (.s (.s (.s (.s (.s (.s (.s .z)))))))))) (by kernel_rfl) (by kernel_rfl) (by kernel_rfl) (fun _ _ _ h=>h) (by rfl) g ?_;simp only [Act.put,ail,ain,aio];refine jY (i:=11) (.s (.s (.s (.s (.s (.s (.s (.s (.s (.s (.s .z))))))))))) (by kernel_rfl) (by kernel_rfl) (by kernel_rfl) (fun _ _ _ h=>h) (v:=?_) ⟨by rfl,?_⟩ g ?_;rotate_left
 ·(intro w0 c;(try dsimp only at c);go_split_ands;go_simp;try with_reducible rfl)
 simp only [Act.put,ail,ain,aio];refine jY (i:=12) (.s (.s (.s (.s (.s (.s (.s (.s (.s (.s (.s (.s .z)))))))))))) (by kernel_rfl) (by kernel_rfl) (by kernel_rfl) (fun _ _ _ h=>h) (v:=?_) ⟨by rfl,?_⟩ g ?_;rotate_left
 ·(intro w0 c;(try dsimp only at c);go_split_ands;go_simp;try with_reducible rfl)
 simp only [Act.put,ail,ain,aio];refine jY (i:=13) (.s (.s (.s (.s (.s (.s (.s (.s (.s (.s (.s (.s (.s .z))))))))))))) (by kernel_rfl) (by kernel_rfl) (by kernel_rfl) (fun _ _ _ h=>h) (v:=?_) ⟨by rfl,?_⟩ g ?_;rotate_left
 ·(intro w0 c;(try dsimp only at c);go_split_ands;go_simp;try with_reducible rfl)
 simp only [Act.put,ail,ain,aio];refine jY (i:=14) (.s (.s (.s (.s (.s (.s (.s (.s (.s (.s (.s (.s (.s (.s .z)))))))))))))) (by kernel_rfl) (by kernel_rfl) (by kernel_rfl) (fun _ _ _ h=>h) (v:=?_) ⟨by rfl,?_⟩ g ?_;rotate_left
 ·(intro w0 c;(try dsimp only at c);go_split_ands;go_simp;try with_reducible rfl)
 simp only [Act.put,ail,ain,aio];refine jY (i:=15) (.s (.s (.s (.s (.s (.s (.s (.s (.s (.s (.s (.s (.s (.s (.s .z))))))))))))))) (by kernel_rfl) (by kernel_rfl) (by kernel_rfl) (fun _ _ _ h=>h) (v:=?_) ⟨by rfl,?_⟩ g ?_;rotate_left
 ·(intro w0 c;(try dsimp only at c);go_split_ands;go_simp;try with_reducible rfl)
 simp only [Act.put,ail,ain,aio];refine jY (i:=16) (.s (.s (.s (.s (.s (.s (.s (.s (.s (.s (.s (.s (.s (.s (.s (.s .z)))))))))))))))) (by kernel_rfl) (by kernel_rfl) (by kernel_rfl) (fun _ _ _ h=>h) (v:=?_) ⟨by rfl,?_⟩ g ?_;rotate_left
 ·(intro w0 c;(try dsimp only at c);go_split_ands;go_simp;try with_reducible rfl)
 simp only [Act.put,ail,ain,aio];refine wpAnyH_ready (rs:=[17]) (by kernel_rfl) (by simp) ?_;refine fO (.s (.s (.s (.s (.s (.s (.s (.s (.s (.s (.s (.s (.s (.s (.s (.s (.s .z))))))))))))))))) (fun K l=>?_);go_simp;refine l.out _ _ ?_ (fun Q=>?_)
 ·(refine⟨?_,?_,?_,?_⟩ <;> go_keep)
 (try simp only [Act.put,ail,ain,aio])
 refine jY (i:=18) (.s (.s (.s (.s (.s (.s (.s (.s (.s (.s (.s (.s (.s (.s (.s (.s (.s (.s .z)))))))))))))))))) (by kernel_rfl) (by kernel_rfl) (by kernel_rfl) (fun _ _ _ h=>h) (v:=?_) ⟨by rfl,?_⟩ Q ?_;rotate_left
 ·(intro w0 c;(try dsimp only at c);go_split_ands;go_simp;try with_reducible rfl)
 simp only [Act.put,ail,ain,aio];refine wpAnyH_done (by kernel_rfl) (NoPanic.normal ?_) _;go_wp2_with fail;refine bodyPost_ret (v:=.tuple #[.agg #[.bool false,.int .i64 0,.int .i64 0,.slice (some ⟨w5.heap.size,0,none⟩) 1 1],.bool false]) (by simp [results,Tryz.f158,go_sem,E,F,G,H]) rfl ?_
 refine⟨_,_,_,_,_,_,_,rfl,?_,?_⟩
 ·repeat (first|(with_reducible exact X.o)|(with_reducible refine dS ?_ ?_)|(with_reducible refine aF ?_ ?_)|(with_reducible refine Below.drew ?_) | omega|(simp;omega))
 ·rw [P.o]
end
section
open Go.RowKit Mist
theorem La (k:Nat)(x:Bs)(n a:Int)(b:Option Addr)(d c:Nat)(w:World):Calls Tryz.prog 158 #[.agg #[.int .u8 k,.string (aU x),.int .i64 n,.slice b d c,.int .i64 a]] w (dH (Mist.shapeOf k n) w):=by
 have e:k=0∨((27≤k∧k≤29)∨(35≤k∧k≤39)∨47≤k)∨k=1∨k=2∨k=3∨k=32∨k=45∨k=4∨k=5∨(6≤k∧k≤18)∨k=23∨k=19∨k=20∨k=21∨k=22∨k=25∨k=43∨k=44∨k=24∨k=26∨k=30∨k=31∨k=33∨k=34∨k=40∨k=41∨k=42∨k=46:=by omega
 rcases e with rfl | h | rfl | rfl | rfl | rfl | rfl | rfl | rfl | h | rfl | rfl | rfl | rfl | rfl | rfl | rfl | rfl | rfl | rfl | rfl | rfl | rfl | rfl | rfl | rfl | rfl | rfl
 ·exact YH x n a b d c w
 ·exact OO k x n a b d c w h
 ·exact YI x n a b d c w
 ·exact YJ x n a b d c w
 ·exact YK x n a b d c w
 ·exact Un x n a b d c w
 ·exact Uw x n a b d c w
 ·exact YL x n a b d c w
 ·exact YM x n a b d c w
 ·exact YN k x n a b d c w h
 ·exact Uh x n a b d c w
 ·exact Ud x n a b d c w
 ·exact Ue x n a b d c w
 ·exact Uf x n a b d c w
 ·exact Ug x n a b d c w
 ·exact Uj x n a b d c w
 ·exact Uu x n a b d c w
 ·exact Uv x n a b d c w
 ·exact Ui x n a b d c w
 ·exact Uk x n a b d c w
 ·exact Ul x n a b d c w
 ·exact Um x n a b d c w
 ·exact Uo x n a b d c w
 ·exact Uq x n a b d c w
 ·exact Ur x n a b d c w
 ·exact Us x n a b d c w
 ·exact Ut x n a b d c w
 ·exact Ux x n a b d c w
end
