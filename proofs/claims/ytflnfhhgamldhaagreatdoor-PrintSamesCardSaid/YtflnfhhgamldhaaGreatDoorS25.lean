/-
  A part of the proof.
-/
import Derived.Test.YtflnfhhgamldhaaGreatDoorS24
set_option linter.all false
set_option maxRecDepth 100000
set_option maxHeartbeats 4000000
namespace Go.Proofs.YtflnfhhgamldhaaGreatDoor
section
open Go.RowKit Mist
attribute [local go_sem] ah aM aV au ak
theorem vH {P:Program}{d:Region.Mode}{l:List Oper}{Q:Exit→Act→World→Prop}{S:World→Prop}{i:Nat}{e:Oper}{b:Nat}{listed:Array Bool}{a:Act}{w:World}(hi:Nth l i e)
  (j:Region.noSelect l.toArray=true) (f:Region.free d l.toArray listed i=true) (g:(Region.ready d l.toArray listed).contains i=true)
  (hQ:∀ c a w,Q (.panic c) (a.put e.dst undef) w→Q (.panic c) a w) (hy:Region.wanted e (yielded l.toArray a.tmps)=false) (hS:S w)
  (h:wpAnyH P d l.toArray Q S b (listed.setIfInBounds i true) (a.put e.dst undef) w):wpAnyH P d l.toArray Q S (b+1) listed a w :=
 wpAnyH_take hi.get j f g hQ (Or.inr ⟨hy,rfl⟩) hS h
theorem aa' (k:Nat)(x:Bs)(n a:Int)(P:Option Addr)(U Q:Nat)(w:World)(h:6≤k∧k≤18):Calls Tryz.prog 132 #[.agg #[.int .u8 k,.string (aH x),.int .i64 n,.slice P U Q,.int .i64 a]] w (eu (Mist.shapeOf k n) w):=by
 have e1:((k:Int) == 1)=false:=by rw [akW];omega
 have e2:((k:Int) == 2)=false:=by rw [akW];omega
 have e3:((k:Int) == 3)=false:=by rw [akW];omega
 have e32:((k:Int) == 32)=false:=by rw [akW];omega
 have e45:((k:Int) == 45)=false:=by rw [akW];omega
 have e4:((k:Int) == 4)=false:=by rw [akW];omega
 have e5:((k:Int) == 5)=false:=by rw [akW];omega
 have e19:((k:Int) == 19)=false:=by rw [akW];omega
 have e20:((k:Int) == 20)=false:=by rw [akW];omega
 have e21:((k:Int) == 21)=false:=by rw [akW];omega
 have e22:((k:Int) == 22)=false:=by rw [akW];omega
 have e25:((k:Int) == 25)=false:=by rw [akW];omega
 have e43:((k:Int) == 43)=false:=by rw [akW];omega
 have e44:((k:Int) == 44)=false:=by rw [akW];omega
 have e24:((k:Int) == 24)=false:=by rw [akW];omega
 have e26:((k:Int) == 26)=false:=by rw [akW];omega
 have e30:((k:Int) == 30)=false:=by rw [akW];omega
 have e31:((k:Int) == 31)=false:=by rw [akW];omega
 have e33:((k:Int) == 33)=false:=by rw [akW];omega
 have e34:((k:Int) == 34)=false:=by rw [akW];omega
 have e40:((k:Int) == 40)=false:=by rw [akW];omega
 have e41:((k:Int) == 41)=false:=by rw [akW];omega
 have e42:((k:Int) == 42)=false:=by rw [akW];omega
 have e46:((k:Int) == 46)=false:=by rw [akW];omega
 have a1:decide ((6:Int)≤(k:Int))=true:=ak' (by omega);have a2:decide ((k:Int)≤(18:Int))=true:=ak' (by omega);have Y:=O (show Mist.shapeOf k n=some ⟨false,0,0,[⟨2,2,.expr⟩]⟩ from (by unfold Mist.shapeOf;repeat (first | rw [if_neg (by omega)] | rw [if_pos (by omega)])));go_in
 go_wp2_with fail;refine (aO _ _).mono ?_;rintro e w1⟨rfl,q⟩;go_wp2_with fail;refine (aO _ _).mono ?_;rintro e w2⟨rfl,r⟩;go_wp2_with fail;refine (aO _ _).mono ?_;rintro e u⟨rfl,t⟩;have G:=O (fu q r t);have hz:=G.o.1;clear q r t;go_upto_region 5 with (fail)
 obtain⟨W,R,f,y,kQ,wZ,hs7,zB,-,l,-,-,-⟩:=G.o.2;rw [R];clear R hz G;have A:=l.o.cell 0;have B:=l.o.cell 1;have C:=l.o.cell 2;have R4:=l.o.lt;have D:=y.o.cell 0;have p2:=y.o.cell 2;have J:=f.o.cell 0;have L:=f.o.cell 1;have M:=f.o.cell 2;have N:=f.o.cell 3;have r0:=f.o.frozen 0;have r1:=f.o.frozen 1;have r2:=f.o.frozen 2;have V:=f.o.frozen 3;go_wp2_with fail;have hp5:=y.o.lt;have hne:w.heap.size ≠ u.heap.size:=fun e=>f.o.ne_ l.o (by decide) (by rw [e])
 refine wp_region_noPanic ?_;refine wp_region_held_drew (S:=fun E=>E.cell? ⟨w.heap.size,0,none⟩=some (.int .u8 k)∧E.cell? ⟨u.heap.size+1,0,none⟩=some (.int .i64 2)∧E.cell? ⟨u.heap.size+1,1,none⟩=some (.int .i64 2)∧E.cell? ⟨u.heap.size+1,2,none⟩=some (.func (.func 160) #[] #[])) (by kernel_rfl) ⟨D,A,B,C⟩ (fun b=>?_);refine dB 0 rfl b ?_;simp only [Act.put,akR,akS,akT];refine dB 1 rfl b ?_;simp only [Act.put,akR,akS,akT];refine dB 4 rfl b ?_;simp only [Act.put,akR,akS,akT];refine dB 5 rfl b ?_;simp only [Act.put,akR,akS,akT];refine dB 6 rfl b ?_;simp only [Act.put,akR,akS,akT];refine wpAnyH_ready (rs:=[2]) (by kernel_rfl) (by simp) ?_;refine gN (.s (.s .z)) (fun K m=>?_);go_simp;refine m.out _ _ ?_ (fun X=>?_)
 ·(refine⟨?_,?_,?_,?_⟩ <;> go_keep)
 (try simp only [Act.put,akR,akS,akT])
 refine wpAnyH_ready (rs:=[3]) (by kernel_rfl) (by simp) ?_;refine gN (.s (.s (.s .z))) (fun K m=>?_);go_simp;refine (rE _ _ _ _).mono ?_;rintro e F⟨rfl,d⟩;have Rs:=O d;have H:=O (show bf F w.heap.size 50 #[.int .u8 k,.string (aH x),.int .i64 n,.slice P U Q,.int .i64 a] from bf.below (by repeat (first|(with_reducible exact y.o)|(with_reducible refine bf.alloc ?_ _)|(with_reducible refine bf.drew ?_))) d (by first | omega|(simp;omega)));have I:=O (show bf F (u.heap.size+1) 169 #[.int .i64 2,.int .i64 2,.func (.func 160) #[] #[]] from bf.below (by repeat (first|(with_reducible exact l.o)|(with_reducible refine bf.alloc ?_ _)|(with_reducible refine bf.drew ?_))) d (by first | omega|(simp;omega)));have j:=O (show bf F (w.heap.size+1) 150 #[.bool false,.int .i64 0,.int .i64 0,.slice none 0 0] from bf.below (by repeat (first|(with_reducible exact f.o)|(with_reducible refine bf.alloc ?_ _)|(with_reducible refine bf.drew ?_))) d (by first | omega|(simp;omega)));have mP:=O (show Below w.heap.size w F from Below.trans (by repeat (first|(with_reducible exact kQ.o)|(with_reducible refine aG ?_ ?_)|(with_reducible refine Below.drew ?_) | omega|(simp;omega))) (d.mono (by first | omega|(simp;omega))));clear d D p2 J L M N r0 r1 r2 V A B C;have D:=H.o.cell 0;have A:=I.o.cell 0;have B:=I.o.cell 1;have C:=I.o.cell 2;have J:=j.o.cell 0;have L:=j.o.cell 1;have M:=j.o.cell 2;have N:=j.o.cell 3;have r0:=j.o.frozen 0;have r1:=j.o.frozen 1;have r2:=j.o.frozen 2;have V:=j.o.frozen 3;have hs9:=j.o.lt;clear b X;refine m.out _ _ ⟨D,A,B,C⟩ (fun g=>?_)
 (try simp only [Act.put,akR,akS,akT])
 refine dB 7 rfl g ?_;simp only [Act.put,akR,akS,akT];refine dB 8 rfl g ?_;simp only [Act.put,akR,akS,akT];refine dB 9 rfl g ?_;simp only [Act.put,akR,akS,akT];refine kU (i:=10) (.s (.s (.s (.s (.s (.s (.s (.s (.s (.s .z)))))))))) (by kernel_rfl) (by kernel_rfl) (by kernel_rfl) (fun _ _ _ h=>h) (v:=?_) ⟨by rfl,?_⟩ g ?_;rotate_left
 ·(intro w0 c;(try dsimp only at c);go_split_ands;go_simp;try with_reducible rfl)
 simp only [Act.put,akR,akS,akT];refine kU (i:=11) (.s (.s (.s (.s (.s (.s (.s (.s (.s (.s (.s .z))))))))))) (by kernel_rfl) (by kernel_rfl) (by kernel_rfl) (fun _ _ _ h=>h) (v:=?_) ⟨by rfl,?_⟩ g ?_;rotate_left
 ·(intro w0 c;(try dsimp only at c);go_split_ands;go_simp;try with_reducible rfl)
 simp only [Act.put,akR,akS,akT];refine kU (i:=12) (.s (.s (.s (.s (.s (.s (.s (.s (.s (.s (.s (.s .z)))))))))))) (by kernel_rfl) (by kernel_rfl) (by kernel_rfl) (fun _ _ _ h=>h) (v:=?_) ⟨by rfl,?_⟩ g ?_;rotate_left
 ·(intro w0 c;(try dsimp only at c);go_split_ands;go_simp;try with_reducible rfl)
 simp only [Act.put,akR,akS,akT];refine vH (i:=13) (.s (.s (.s (.s (.s (.s (.s (.s (.s (.s (.s (.s (.s .z))))))))))))) (by kernel_rfl) (by kernel_rfl) (by kernel_rfl) (fun _ _ _ h=>h) (by rfl) g ?_;simp only [Act.put,akR,akS,akT];refine vH (i:=14) (.s (.s (.s (.s (.s (.s (.s (.s (.s (.s (.s (.s (.s (.s .z)))))))))))))) (by kernel_rfl) (by kernel_rfl) (by kernel_rfl) (fun _ _ _ h=>h) (by rfl) g ?_;simp only [Act.put,akR,akS,akT];refine vH (i:=15) (.s (.s (.s (.s (.s (.s (.s (.s (.s (.s (.s (.s (.s (.s (.s .z))))))))))))))) (by kernel_rfl) (by kernel_rfl) (by kernel_rfl) (fun _ _ _ h=>h) (by rfl) g ?_;simp only [Act.put,akR,akS,akT];refine kU (i:=16) (.s (.s (.s (.s (.s (.s (.s (.s (.s (.s (.s (.s (.s (.s (.s (.s .z)))))))))))))))) (by kernel_rfl) (by kernel_rfl) (by kernel_rfl) (fun _ _ _ h=>h) (v:=?_) ⟨by rfl,?_⟩ g ?_;rotate_left
 ·(intro w0 c;(try dsimp only at c);go_split_ands;go_simp;try with_reducible rfl)
 simp only [Act.put,akR,akS,akT];refine wpAnyH_ready (rs:=[17]) (by kernel_rfl) (by simp) ?_;refine gN (.s (.s (.s (.s (.s (.s (.s (.s (.s (.s (.s (.s (.s (.s (.s (.s (.s .z))))))))))))))))) (fun K m=>?_);go_simp;refine m.out _ _ ?_ (fun Z=>?_)
 ·(refine⟨?_,?_,?_,?_⟩ <;> go_keep)
 (try simp only [Act.put,akR,akS,akT])
 refine kU (i:=18) (.s (.s (.s (.s (.s (.s (.s (.s (.s (.s (.s (.s (.s (.s (.s (.s (.s (.s .z)))))))))))))))))) (by kernel_rfl) (by kernel_rfl) (by kernel_rfl) (fun _ _ _ h=>h) (v:=?_) ⟨by rfl,?_⟩ Z ?_;rotate_left
 ·(intro w0 c;(try dsimp only at c);go_split_ands;go_simp;try with_reducible rfl)
 simp only [Act.put,akR,akS,akT];refine wpAnyH_done (by kernel_rfl) (NoPanic.normal ?_) _;go_wp2_with fail;refine bodyPost_ret (v:=.tuple #[.agg #[.bool false,.int .i64 0,.int .i64 0,.slice (some ⟨W.heap.size,0,none⟩) 1 1],.bool true]) (by simp [results,Tryz.f132,go_sem,J,L,M,N]) rfl ?_
 refine⟨_,_,_,_,_,_,_,rfl,?_,?_⟩
 ·repeat (first|(with_reducible exact mP.o)|(with_reducible refine eF ?_ ?_)|(with_reducible refine aG ?_ ?_)|(with_reducible refine Below.drew ?_) | omega|(simp;omega))
 ·rw [Y.o]
  refine⟨rfl,rfl,rfl,rfl,rfl,ak0 _,?_⟩
  refine dR.one (T:=169) ?_;have hq:=(bf.drew (bf.new W 169 #[.int .i64 2,.int .i64 2,.func (.func 160) #[] #[]])).below Rs.o (by simp)
  repeat (first|(with_reducible refine bf.far ?_ ?_ _)|(with_reducible refine bf.drew ?_) | exact hq|(simp;omega))
theorem aa5 (x:Bs)(n a:Int)(N:Option Addr)(R P:Nat)(w:World):Calls Tryz.prog 132 #[.agg #[.int .u8 0,.string (aH x),.int .i64 n,.slice N R P,.int .i64 a]] w (eu (Mist.shapeOf 0 n) w):=by
 have V:=O (show Mist.shapeOf 0 n=none from rfl);go_in
 go_wp2_with fail;refine (aO _ _).mono ?_;rintro e w1⟨rfl,m⟩;go_wp2_with fail;refine (aO _ _).mono ?_;rintro e w2⟨rfl,q⟩;go_wp2_with fail;refine (aO _ _).mono ?_;rintro e t⟨rfl,r⟩;have F:=O (fu m q r);have hz:=F.o.1;clear m q r;go_upto_region 5 with (fail)
 obtain⟨w5,Q,f,u,kQ,wZ,Z,zB,-,k,-,-,-⟩:=F.o.2;rw [Q];clear Q hz F;have y:=k.o.cell 0;have A:=k.o.cell 1;have B:=k.o.cell 2;have R4:=k.o.lt;have C:=u.o.cell 0;have p2:=u.o.cell 2;have I:=f.o.cell 0;have J:=f.o.cell 1;have L:=f.o.cell 2;have M:=f.o.cell 3;have r0:=f.o.frozen 0;have r1:=f.o.frozen 1;have r2:=f.o.frozen 2;have T:=f.o.frozen 3;go_wp2_with fail;have Y:=u.o.lt;have X:w.heap.size ≠ t.heap.size:=fun e=>f.o.ne_ k.o (by decide) (by rw [e])
 refine wp_region_noPanic ?_;refine wp_region_held_drew (S:=fun D=>D.cell? ⟨w.heap.size,0,none⟩=some (.int .u8 0)∧D.cell? ⟨t.heap.size+1,0,none⟩=some (.int .i64 2)∧D.cell? ⟨t.heap.size+1,1,none⟩=some (.int .i64 2)∧D.cell? ⟨t.heap.size+1,2,none⟩=some (.func (.func 160) #[] #[])) (by kernel_rfl) ⟨C,y,A,B⟩ (fun b=>?_);refine dB 0 rfl b ?_;simp only [Act.put,akR,akS,akT];refine dB 1 rfl b ?_;simp only [Act.put,akR,akS,akT];refine dB 4 rfl b ?_;simp only [Act.put,akR,akS,akT];refine dB 5 rfl b ?_;simp only [Act.put,akR,akS,akT];refine dB 6 rfl b ?_;simp only [Act.put,akR,akS,akT];refine wpAnyH_ready (rs:=[2]) (by kernel_rfl) (by simp) ?_;refine gN (.s (.s .z)) (fun K l=>?_);go_simp;refine l.out _ _ ?_ (fun U=>?_)
 ·(refine⟨?_,?_,?_,?_⟩ <;> go_keep)
 (try simp only [Act.put,akR,akS,akT])
 refine wpAnyH_ready (rs:=[3]) (by kernel_rfl) (by simp) ?_;refine gN (.s (.s (.s .z))) (fun K l=>?_);go_simp;refine (rE _ _ _ _).mono ?_;rintro e E⟨rfl,d⟩;have Rs:=O d;have G:=O (show bf E w.heap.size 50 #[.int .u8 0,.string (aH x),.int .i64 n,.slice N R P,.int .i64 a] from bf.below (by repeat (first|(with_reducible exact u.o)|(with_reducible refine bf.alloc ?_ _)|(with_reducible refine bf.drew ?_))) d (by first | omega|(simp;omega)));have H:=O (show bf E (t.heap.size+1) 169 #[.int .i64 2,.int .i64 2,.func (.func 160) #[] #[]] from bf.below (by repeat (first|(with_reducible exact k.o)|(with_reducible refine bf.alloc ?_ _)|(with_reducible refine bf.drew ?_))) d (by first | omega|(simp;omega)));have j:=O (show bf E (w.heap.size+1) 150 #[.bool false,.int .i64 0,.int .i64 0,.slice none 0 0] from bf.below (by repeat (first|(with_reducible exact f.o)|(with_reducible refine bf.alloc ?_ _)|(with_reducible refine bf.drew ?_))) d (by first | omega|(simp;omega)));have mP:=O (show Below w.heap.size w E from Below.trans (by repeat (first|(with_reducible exact kQ.o)|(with_reducible refine aG ?_ ?_)|(with_reducible refine Below.drew ?_) | omega|(simp;omega))) (d.mono (by first | omega|(simp;omega))));clear d C p2 I J L M r0 r1 r2 T y A B;have C:=G.o.cell 0;have y:=H.o.cell 0;have A:=H.o.cell 1;have B:=H.o.cell 2;have I:=j.o.cell 0;have J:=j.o.cell 1;have L:=j.o.cell 2;have M:=j.o.cell 3;have r0:=j.o.frozen 0;have r1:=j.o.frozen 1;have r2:=j.o.frozen 2;have T:=j.o.frozen 3;have hs9:=j.o.lt;clear b U;refine l.out _ _ ⟨C,y,A,B⟩ (fun g=>?_)
 (try simp only [Act.put,akR,akS,akT])
 refine dB 7 rfl g ?_;simp only [Act.put,akR,akS,akT];refine vH (i:=8) (.s (.s (.s (.s (.s (.s (.s (.s .z)))))))) (by kernel_rfl) (by kernel_rfl) (by kernel_rfl) (fun _ _ _ h=>h) (by rfl) g ?_;simp only [Act.put,akR,akS,akT];refine vH (i:=9) (.s (.s (.s (.s (.s (.s (.s (.s (.s .z))))))))) (by kernel_rfl) (by kernel_rfl) (by kernel_rfl) (fun _ _ _ h=>h) (by rfl) g ?_;simp only [Act.put,akR,akS,akT];refine vH (i:=10) (.s (.s (.s (.s (.s (.s (.s (.s (.s (.s .z)))))))))) (by kernel_rfl) (by kernel_rfl) (by kernel_rfl) (fun _ _ _ h=>h) (by rfl) g ?_;simp only [Act.put,akR,akS,akT];refine kU (i:=11) (.s (.s (.s (.s (.s (.s (.s (.s (.s (.s (.s .z))))))))))) (by kernel_rfl) (by kernel_rfl) (by kernel_rfl) (fun _ _ _ h=>h) (v:=?_) ⟨by rfl,?_⟩ g ?_;rotate_left
 ·(intro w0 c;(try dsimp only at c);go_split_ands;go_simp;try with_reducible rfl)
 simp only [Act.put,akR,akS,akT];refine kU (i:=12) (.s (.s (.s (.s (.s (.s (.s (.s (.s (.s (.s (.s .z)))))))))))) (by kernel_rfl) (by kernel_rfl) (by kernel_rfl) (fun _ _ _ h=>h) (v:=?_) ⟨by rfl,?_⟩ g ?_;rotate_left
 ·(intro w0 c;(try dsimp only at c);go_split_ands;go_simp;try with_reducible rfl)
 simp only [Act.put,akR,akS,akT];refine kU (i:=13) (.s (.s (.s (.s (.s (.s (.s (.s (.s (.s (.s (.s (.s .z))))))))))))) (by kernel_rfl) (by kernel_rfl) (by kernel_rfl) (fun _ _ _ h=>h) (v:=?_) ⟨by rfl,?_⟩ g ?_;rotate_left
 ·(intro w0 c;(try dsimp only at c);go_split_ands;go_simp;try with_reducible rfl)
 simp only [Act.put,akR,akS,akT];refine kU (i:=14) (.s (.s (.s (.s (.s (.s (.s (.s (.s (.s (.s (.s (.s (.s .z)))))))))))))) (by kernel_rfl) (by kernel_rfl) (by kernel_rfl) (fun _ _ _ h=>h) (v:=?_) ⟨by rfl,?_⟩ g ?_;rotate_left
 ·(intro w0 c;(try dsimp only at c);go_split_ands;go_simp;try with_reducible rfl)
 simp only [Act.put,akR,akS,akT];refine kU (i:=15) (.s (.s (.s (.s (.s (.s (.s (.s (.s (.s (.s (.s (.s (.s (.s .z))))))))))))))) (by kernel_rfl) (by kernel_rfl) (by kernel_rfl) (fun _ _ _ h=>h) (v:=?_) ⟨by rfl,?_⟩ g ?_;rotate_left
 ·(intro w0 c;(try dsimp only at c);go_split_ands;go_simp;try with_reducible rfl)
 simp only [Act.put,akR,akS,akT];refine kU (i:=16) (.s (.s (.s (.s (.s (.s (.s (.s (.s (.s (.s (.s (.s (.s (.s (.s .z)))))))))))))))) (by kernel_rfl) (by kernel_rfl) (by kernel_rfl) (fun _ _ _ h=>h) (v:=?_) ⟨by rfl,?_⟩ g ?_;rotate_left
 ·(intro w0 c;(try dsimp only at c);go_split_ands;go_simp;try with_reducible rfl)
 simp only [Act.put,akR,akS,akT];refine wpAnyH_ready (rs:=[17]) (by kernel_rfl) (by simp) ?_;refine gN (.s (.s (.s (.s (.s (.s (.s (.s (.s (.s (.s (.s (.s (.s (.s (.s (.s .z))))))))))))))))) (fun K l=>?_);go_simp;refine l.out _ _ ?_ (fun W=>?_)
 ·(refine⟨?_,?_,?_,?_⟩ <;> go_keep)
 (try simp only [Act.put,akR,akS,akT])
 refine kU (i:=18) (.s (.s (.s (.s (.s (.s (.s (.s (.s (.s (.s (.s (.s (.s (.s (.s (.s (.s .z)))))))))))))))))) (by kernel_rfl) (by kernel_rfl) (by kernel_rfl) (fun _ _ _ h=>h) (v:=?_) ⟨by rfl,?_⟩ W ?_;rotate_left
 ·(intro w0 c;(try dsimp only at c);go_split_ands;go_simp;try with_reducible rfl)
 simp only [Act.put,akR,akS,akT];refine wpAnyH_done (by kernel_rfl) (NoPanic.normal ?_) _;go_wp2_with fail;refine bodyPost_ret (v:=.tuple #[.agg #[.bool false,.int .i64 0,.int .i64 0,.slice (some ⟨w5.heap.size,0,none⟩) 1 1],.bool false]) (by simp [results,Tryz.f132,go_sem,I,J,L,M]) rfl ?_
 refine⟨_,_,_,_,_,_,_,rfl,?_,?_⟩
 ·repeat (first|(with_reducible exact mP.o)|(with_reducible refine eF ?_ ?_)|(with_reducible refine aG ?_ ?_)|(with_reducible refine Below.drew ?_) | omega|(simp;omega))
 ·rw [V.o]
end
section
open Go.RowKit Mist
theorem Nv (k:Nat)(x:Bs)(n a:Int)(b:Option Addr)(d c:Nat)(w:World):Calls Tryz.prog 132 #[.agg #[.int .u8 k,.string (aH x),.int .i64 n,.slice b d c,.int .i64 a]] w (eu (Mist.shapeOf k n) w):=by
 have e:k=0∨((27≤k∧k≤29)∨(35≤k∧k≤39)∨47≤k)∨k=1∨k=2∨k=3∨k=32∨k=45∨k=4∨k=5∨(6≤k∧k≤18)∨k=23∨k=19∨k=20∨k=21∨k=22∨k=25∨k=43∨k=44∨k=24∨k=26∨k=30∨k=31∨k=33∨k=34∨k=40∨k=41∨k=42∨k=46:=by omega
 rcases e with rfl | h | rfl | rfl | rfl | rfl | rfl | rfl | rfl | h | rfl | rfl | rfl | rfl | rfl | rfl | rfl | rfl | rfl | rfl | rfl | rfl | rfl | rfl | rfl | rfl | rfl | rfl
 ·exact aa5 x n a b d c w
 ·exact Q0 k x n a b d c w h
 ·exact aa6 x n a b d c w
 ·exact aa7 x n a b d c w
 ·exact aa8 x n a b d c w
 ·exact Wj x n a b d c w
 ·exact Wu x n a b d c w
 ·exact aa9 x n a b d c w
 ·exact aa_ x n a b d c w
 ·exact aa' k x n a b d c w h
 ·exact V7 x n a b d c w
 ·exact VY x n a b d c w
 ·exact VZ x n a b d c w
 ·exact V5 x n a b d c w
 ·exact V6 x n a b d c w
 ·exact V9 x n a b d c w
 ·exact Ws x n a b d c w
 ·exact Wt x n a b d c w
 ·exact V8 x n a b d c w
 ·exact V_ x n a b d c w
 ·exact Wh x n a b d c w
 ·exact Wi x n a b d c w
 ·exact Wm x n a b d c w
 ·exact Wn x n a b d c w
 ·exact Wo x n a b d c w
 ·exact Wp x n a b d c w
 ·exact Wq x n a b d c w
 ·exact Wv x n a b d c w
end
