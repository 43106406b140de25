/-
  A part of the proof.
-/
import Derived.Test.YthepmkjggfijoaaGreatDoorSA
import Derived.Deep.Cut
import Derived.Deep.RegionHeld3
import Derived.Deep.RegionWith
import Derived.Test.YthepmkjggfijoaaGreatDoorS08
import Derived.Test.YthepmkjggfijoaaGreatDoorS22
import Derived.Test.YthepmkjggfijoaaGreatDoorS23
import Derived.Test.YthepmkjggfijoaaGreatDoorS24
set_option linter.all false
set_option maxRecDepth 100000
set_option maxHeartbeats 4000000
namespace Go.Proofs.YthepmkjggfijoaaGreatDoor
open Go.RowKit Mist
attribute [local go_sem] aj aH aS aB ak
theorem WI (x:Bs)(n a:Int)(C:Option Addr)(F D:Nat)(w:World):Calls Tryz.prog 103 #[.agg #[.int .u8 23,.string (aM x),.int .i64 n,.slice C F D,.int .i64 a]] w (eB (Mist.shapeOf 23 n) w):=by
 have r:=O (show Mist.shapeOf 23 n=some ⟨false,0,0,[⟨2,2,.expr⟩]⟩ from rfl);go_in
 go_wp2_with fail;refine (aG _ _).mono ?_;rintro e w1⟨rfl,g⟩;go_wp2_with fail;refine (aG _ _).mono ?_;rintro e w2⟨rfl,h⟩;go_wp2_with fail;refine (aG _ _).mono ?_;rintro e j⟨rfl,i⟩;have q:=O (fP g h i);have U:=q.o.1;clear g h i;go_upto_region 5 with (fail)
 obtain⟨L,E,c,k,V,vS,R,Z,-,f,-,-,-⟩:=q.o.2;rw [E];clear E U q;have G:=f.o.cell 0;have H:=f.o.cell 1;have I:=f.o.cell 2;have Uk:=f.o.lt;have J:=k.o.cell 0;have X:=k.o.cell 2;have u:=c.o.cell 0;have y:=c.o.cell 1;have A:=c.o.cell 2;have B:=c.o.cell 3;have r0:=c.o.frozen 0;have r1:=c.o.frozen 1;have r2:=c.o.frozen 2;have K:=c.o.frozen 3;go_wp2_with fail;have P:=k.o.lt;have N:w.heap.size ≠ j.heap.size:=fun e=>c.o.ne_ f.o (by decide) (by rw [e])
 go_region_held3 (fun l=>l.cell? ⟨w.heap.size,0,none⟩=some (.int .u8 23)∧l.cell? ⟨j.heap.size+1,0,none⟩=some (.int .i64 2)∧l.cell? ⟨j.heap.size+1,1,none⟩=some (.int .i64 2)∧l.cell? ⟨j.heap.size+1,2,none⟩=some (.func (.func 69) #[] #[]))
  (first | go_keep|(go_split_ands;refine⟨?_,?_,?_,?_⟩ <;> assumption)|(go_split_ands;refine⟨?_,?_,?_,?_⟩ <;> go_keep))
  ((go_at_call 158;refine (uo _ _ _ _).mono ?_;rintro e m⟨rfl,b⟩;have M:=O b;have Y:=O (show aC m w.heap.size 50 #[.int .u8 23,.string (aM x),.int .i64 n,.slice C F D,.int .i64 a] from aC.below (by repeat (first|(with_reducible exact k.o)|(with_reducible refine aC.alloc ?_ _)|(with_reducible refine aC.drew ?_))) b (by first | omega|(simp;omega)));have t:=O (show aC m (j.heap.size+1) 152 #[.int .i64 2,.int .i64 2,.func (.func 69) #[] #[]] from aC.below (by repeat (first|(with_reducible exact f.o)|(with_reducible refine aC.alloc ?_ _)|(with_reducible refine aC.drew ?_))) b (by first | omega|(simp;omega)));have d:=O (show aC m (w.heap.size+1) 119 #[.bool false,.int .i64 0,.int .i64 0,.slice none 0 0] from aC.below (by repeat (first|(with_reducible exact c.o)|(with_reducible refine aC.alloc ?_ _)|(with_reducible refine aC.drew ?_))) b (by first | omega|(simp;omega)));have W:=O (show Below w.heap.size w m from Below.trans (by repeat (first|(with_reducible exact V.o)|(with_reducible refine ah ?_ ?_)|(with_reducible refine Below.drew ?_) | omega|(simp;omega))) (b.mono (by first | omega|(simp;omega))));clear b J X u y A B r0 r1 r2 K G H I;have J:=Y.o.cell 0;have G:=t.o.cell 0;have H:=t.o.cell 1;have I:=t.o.cell 2;have u:=d.o.cell 0;have y:=d.o.cell 1;have A:=d.o.cell 2;have B:=d.o.cell 3;have r0:=d.o.frozen 0;have r1:=d.o.frozen 1;have r2:=d.o.frozen 2;have K:=d.o.frozen 3;have S:=d.o.lt))
 all_goals
  go_wp2_with fail;refine bodyPost_ret (v:=.tuple #[.agg #[.bool false,.int .i64 0,.int .i64 0,.slice (some ⟨L.heap.size,0,none⟩) 1 1],.bool true]) (by simp [results,Tryz.f103,go_sem,u,y,A,B]) rfl ?_
  refine⟨_,_,_,_,_,_,_,rfl,?_,?_⟩
  ·repeat (first|(with_reducible exact W.o)|(with_reducible refine dx ?_ ?_)|(with_reducible refine ah ?_ ?_)|(with_reducible refine Below.drew ?_) | omega|(simp;omega))
  ·rw [r.o]
   refine⟨rfl,rfl,rfl,rfl,rfl,aaJ _,?_⟩
   refine dS.one (T:=152) ?_;have Q:=(aC.drew (aC.new L 152 #[.int .i64 2,.int .i64 2,.func (.func 69) #[] #[]])).below M.o (by simp)
   repeat (first|(with_reducible refine aC.far ?_ ?_ _)|(with_reducible refine aC.drew ?_) | exact Q|(simp;omega))
theorem SY (k:Nat)(x:Bs)(n a:Int)(E:Option Addr)(I F:Nat)(w:World)(h:(27≤k∧k≤29)∨(35≤k∧k≤39)∨47≤k):Calls Tryz.prog 103 #[.agg #[.int .u8 k,.string (aM x),.int .i64 n,.slice E I F,.int .i64 a]] w (eB (Mist.shapeOf k n) w):=by
 have e1:((k:Int) == 1)=false:=by rw [aaF];omega
 have e2:((k:Int) == 2)=false:=by rw [aaF];omega
 have e3:((k:Int) == 3)=false:=by rw [aaF];omega
 have Y:((k:Int) == 32)=false:=by rw [aaF];omega
 have e45:((k:Int) == 45)=false:=by rw [aaF];omega
 have e4:((k:Int) == 4)=false:=by rw [aaF];omega
 have e5:((k:Int) == 5)=false:=by rw [aaF];omega
 have P:((k:Int) == 19)=false:=by rw [aaF];omega
 have Q:((k:Int) == 20)=false:=by rw [aaF];omega
 have R:((k:Int) == 21)=false:=by rw [aaF];omega
 have S:((k:Int) == 22)=false:=by rw [aaF];omega
 have U:((k:Int) == 25)=false:=by rw [aaF];omega
 have e43:((k:Int) == 43)=false:=by rw [aaF];omega
 have e44:((k:Int) == 44)=false:=by rw [aaF];omega
 have T:((k:Int) == 24)=false:=by rw [aaF];omega
 have V:((k:Int) == 26)=false:=by rw [aaF];omega
 have W:((k:Int) == 30)=false:=by rw [aaF];omega
 have X:((k:Int) == 31)=false:=by rw [aaF];omega
 have Z:((k:Int) == 33)=false:=by rw [aaF];omega
 have e34:((k:Int) == 34)=false:=by rw [aaF];omega
 have e40:((k:Int) == 40)=false:=by rw [aaF];omega
 have e41:((k:Int) == 41)=false:=by rw [aaF];omega
 have e42:((k:Int) == 42)=false:=by rw [aaF];omega
 have e46:((k:Int) == 46)=false:=by rw [aaF];omega
 have a1:decide ((6:Int)≤(k:Int))=true:=aaU (by omega);have a2:decide ((k:Int)≤(18:Int))=false:=aaV (by omega);have u:=O (show Mist.shapeOf k n=none from (by unfold Mist.shapeOf;repeat (first | rw [if_neg (by omega)] | rw [if_pos (by omega)])));have G:((k:Int) == 23)=false:=by rw [aaF];omega
 go_in
 go_wp2_with fail;refine (aG _ _).mono ?_;rintro e w1⟨rfl,g⟩;go_wp2_with fail;refine (aG _ _).mono ?_;rintro e w2⟨rfl,i⟩;go_wp2_with fail;refine (aG _ _).mono ?_;rintro e l⟨rfl,j⟩;have t:=O (fP g i j);have hz:=t.o.1;clear g i j;go_upto_region 5 with (fail)
 obtain⟨w5,H,c,m,jO,vS,hs7,Dv,-,f,-,-,-⟩:=t.o.2;rw [H];clear H hz t;have J:=f.o.cell 0;have K:=f.o.cell 1;have L:=f.o.cell 2;have Uk:=f.o.lt;have M:=m.o.cell 0;have p2:=m.o.cell 2;have A:=c.o.cell 0;have B:=c.o.cell 1;have C:=c.o.cell 2;have D:=c.o.cell 3;have r0:=c.o.frozen 0;have r1:=c.o.frozen 1;have r2:=c.o.frozen 2;have N:=c.o.frozen 3;go_wp2_with fail;have hp5:=m.o.lt;have hne:w.heap.size ≠ l.heap.size:=fun e=>c.o.ne_ f.o (by decide) (by rw [e])
 go_region_held3 (fun q=>q.cell? ⟨w.heap.size,0,none⟩=some (.int .u8 k)∧q.cell? ⟨l.heap.size+1,0,none⟩=some (.int .i64 2)∧q.cell? ⟨l.heap.size+1,1,none⟩=some (.int .i64 2)∧q.cell? ⟨l.heap.size+1,2,none⟩=some (.func (.func 69) #[] #[]))
  (first | go_keep|(go_split_ands;refine⟨?_,?_,?_,?_⟩ <;> assumption)|(go_split_ands;refine⟨?_,?_,?_,?_⟩ <;> go_keep))
  ((go_at_call 158;refine (uo _ _ _ _).mono ?_;rintro e r⟨rfl,b⟩;have TB:=O b;have xG:=O (show aC r w.heap.size 50 #[.int .u8 k,.string (aM x),.int .i64 n,.slice E I F,.int .i64 a] from aC.below (by repeat (first|(with_reducible exact m.o)|(with_reducible refine aC.alloc ?_ _)|(with_reducible refine aC.drew ?_))) b (by first | omega|(simp;omega)));have y:=O (show aC r (l.heap.size+1) 152 #[.int .i64 2,.int .i64 2,.func (.func 69) #[] #[]] from aC.below (by repeat (first|(with_reducible exact f.o)|(with_reducible refine aC.alloc ?_ _)|(with_reducible refine aC.drew ?_))) b (by first | omega|(simp;omega)));have d:=O (show aC r (w.heap.size+1) 119 #[.bool false,.int .i64 0,.int .i64 0,.slice none 0 0] from aC.below (by repeat (first|(with_reducible exact c.o)|(with_reducible refine aC.alloc ?_ _)|(with_reducible refine aC.drew ?_))) b (by first | omega|(simp;omega)));have kT:=O (show Below w.heap.size w r from Below.trans (by repeat (first|(with_reducible exact jO.o)|(with_reducible refine ah ?_ ?_)|(with_reducible refine Below.drew ?_) | omega|(simp;omega))) (b.mono (by first | omega|(simp;omega))));clear b M p2 A B C D r0 r1 r2 N J K L;have M:=xG.o.cell 0;have J:=y.o.cell 0;have K:=y.o.cell 1;have L:=y.o.cell 2;have A:=d.o.cell 0;have B:=d.o.cell 1;have C:=d.o.cell 2;have D:=d.o.cell 3;have r0:=d.o.frozen 0;have r1:=d.o.frozen 1;have r2:=d.o.frozen 2;have N:=d.o.frozen 3;have hs9:=d.o.lt))
 all_goals
  go_wp2_with fail;refine bodyPost_ret (v:=.tuple #[.agg #[.bool false,.int .i64 0,.int .i64 0,.slice (some ⟨w5.heap.size,0,none⟩) 1 1],.bool false]) (by simp [results,Tryz.f103,go_sem,A,B,C,D]) rfl ?_
  refine⟨_,_,_,_,_,_,_,rfl,?_,?_⟩
  ·repeat (first|(with_reducible exact kT.o)|(with_reducible refine dx ?_ ?_)|(with_reducible refine ah ?_ ?_)|(with_reducible refine Below.drew ?_) | omega|(simp;omega))
  ·rw [u.o]
theorem zi {P:Program}{d:Region.Mode}{l:List Oper}{Q:Exit→Act→World→Prop}{S:World→Prop}{i:Nat}{e:Oper}{b:Nat}{listed:Array Bool}{a:Act}{w:World}(hi:Nth l i e)
  (j:Region.noSelect l.toArray=true) (f:Region.free d l.toArray listed i=true) (g:(Region.ready d l.toArray listed).contains i=true)
  (hQ:∀ c a w,Q (.panic c) (a.put e.dst undef) w→Q (.panic c) a w) (hy:Region.wanted e (yielded l.toArray a.tmps)=false) (hS:S w)
  (h:wpAnyH P d l.toArray Q S b (listed.setIfInBounds i true) (a.put e.dst undef) w):wpAnyH P d l.toArray Q S (b+1) listed a w :=
 wpAnyH_take hi.get j f g hQ (Or.inr ⟨hy,rfl⟩) hS h
theorem shape_op (k:Nat)(x:Bs)(n a:Int)(P:Option Addr)(U Q:Nat)(w:World)(h:6≤k∧k≤18):Calls Tryz.prog 103 #[.agg #[.int .u8 k,.string (aM x),.int .i64 n,.slice P U Q,.int .i64 a]] w (eB (Mist.shapeOf k n) w):=by
 have e1:((k:Int) == 1)=false:=by rw [aaF];omega
 have e2:((k:Int) == 2)=false:=by rw [aaF];omega
 have e3:((k:Int) == 3)=false:=by rw [aaF];omega
 have e32:((k:Int) == 32)=false:=by rw [aaF];omega
 have e45:((k:Int) == 45)=false:=by rw [aaF];omega
 have e4:((k:Int) == 4)=false:=by rw [aaF];omega
 have e5:((k:Int) == 5)=false:=by rw [aaF];omega
 have e19:((k:Int) == 19)=false:=by rw [aaF];omega
 have e20:((k:Int) == 20)=false:=by rw [aaF];omega
 have e21:((k:Int) == 21)=false:=by rw [aaF];omega
 have e22:((k:Int) == 22)=false:=by rw [aaF];omega
 have e25:((k:Int) == 25)=false:=by rw [aaF];omega
 have e43:((k:Int) == 43)=false:=by rw [aaF];omega
 have e44:((k:Int) == 44)=false:=by rw [aaF];omega
 have e24:((k:Int) == 24)=false:=by rw [aaF];omega
 have e26:((k:Int) == 26)=false:=by rw [aaF];omega
 have e30:((k:Int) == 30)=false:=by rw [aaF];omega
 have e31:((k:Int) == 31)=false:=by rw [aaF];omega
 have e33:((k:Int) == 33)=false:=by rw [aaF];omega
 have e34:((k:Int) == 34)=false:=by rw [aaF];omega
 have e40:((k:Int) == 40)=false:=by rw [aaF];omega
 have e41:((k:Int) == 41)=false:=by rw [aaF];omega
 have e42:((k:Int) == 42)=false:=by rw [aaF];omega
 have e46:((k:Int) == 46)=false:=by rw [aaF];omega
 have a1:decide ((6:Int)≤(k:Int))=true:=aaU (by omega);have a2:decide ((k:Int)≤(18:Int))=true:=aaU (by omega);have H:=O (show Mist.shapeOf k n=some ⟨false,0,0,[⟨2,2,.expr⟩]⟩ from (by unfold Mist.shapeOf;repeat (first | rw [if_neg (by omega)] | rw [if_pos (by omega)])));go_in
 go_wp2_with fail;refine (aG _ _).mono ?_;rintro e w1⟨rfl,q⟩;go_wp2_with fail;refine (aG _ _).mono ?_;rintro e w2⟨rfl,r⟩;go_wp2_with fail;refine (aG _ _).mono ?_;rintro e u⟨rfl,t⟩;have G:=O (fP q r t);have hz:=G.o.1;clear q r t;go_upto_region 5 with (fail)
 obtain⟨W,R,f,y,jO,vS,hs7,Dv,-,l,-,-,-⟩:=G.o.2;rw [R];clear R hz G;have A:=l.o.cell 0;have B:=l.o.cell 1;have C:=l.o.cell 2;have Uk:=l.o.lt;have D:=y.o.cell 0;have p2:=y.o.cell 2;have J:=f.o.cell 0;have L:=f.o.cell 1;have M:=f.o.cell 2;have N:=f.o.cell 3;have r0:=f.o.frozen 0;have r1:=f.o.frozen 1;have r2:=f.o.frozen 2;have V:=f.o.frozen 3;go_wp2_with fail;have hp5:=y.o.lt;have hne:w.heap.size ≠ u.heap.size:=fun e=>f.o.ne_ l.o (by decide) (by rw [e])
 refine wp_region_noPanic ?_;refine wp_region_held_drew (S:=fun E=>E.cell? ⟨w.heap.size,0,none⟩=some (.int .u8 k)∧E.cell? ⟨u.heap.size+1,0,none⟩=some (.int .i64 2)∧E.cell? ⟨u.heap.size+1,1,none⟩=some (.int .i64 2)∧E.cell? ⟨u.heap.size+1,2,none⟩=some (.func (.func 69) #[] #[])) (by kernel_rfl) ⟨D,A,B,C⟩ (fun b=>?_);refine bf 0 rfl b ?_;simp only [Act.put,aaA,aaB,aaC];refine bf 1 rfl b ?_;simp only [Act.put,aaA,aaB,aaC];refine bf 4 rfl b ?_;simp only [Act.put,aaA,aaB,aaC];refine bf 5 rfl b ?_;simp only [Act.put,aaA,aaB,aaC];refine bf 6 rfl b ?_;simp only [Act.put,aaA,aaB,aaC];refine wpAnyH_ready (rs:=[2]) (by kernel_rfl) (by simp) ?_;refine fJ (.s (.s .z)) (fun K m=>?_);go_simp;refine m.out _ _ ?_ (fun X=>?_)
 ·(refine⟨?_,?_,?_,?_⟩ <;> go_keep)
 (try simp only [Act.put,aaA,aaB,aaC])
 refine wpAnyH_ready (rs:=[3]) (by kernel_rfl) (by simp) ?_;refine fJ (.s (.s (.s .z))) (fun K m=>?_);go_simp;refine (uo _ _ _ _).mono ?_;rintro e F⟨rfl,d⟩;have Z:=O d;have xG:=O (show aC F w.heap.size 50 #[.int .u8 k,.string (aM x),.int .i64 n,.slice P U Q,.int .i64 a] from aC.below (by repeat (first|(with_reducible exact y.o)|(with_reducible refine aC.alloc ?_ _)|(with_reducible refine aC.drew ?_))) d (by first | omega|(simp;omega)));have I:=O (show aC F (u.heap.size+1) 152 #[.int .i64 2,.int .i64 2,.func (.func 69) #[] #[]] from aC.below (by repeat (first|(with_reducible exact l.o)|(with_reducible refine aC.alloc ?_ _)|(with_reducible refine aC.drew ?_))) d (by first | omega|(simp;omega)));have j:=O (show aC F (w.heap.size+1) 119 #[.bool false,.int .i64 0,.int .i64 0,.slice none 0 0] from aC.below (by repeat (first|(with_reducible exact f.o)|(with_reducible refine aC.alloc ?_ _)|(with_reducible refine aC.drew ?_))) d (by first | omega|(simp;omega)));have kT:=O (show Below w.heap.size w F from Below.trans (by repeat (first|(with_reducible exact jO.o)|(with_reducible refine ah ?_ ?_)|(with_reducible refine Below.drew ?_) | omega|(simp;omega))) (d.mono (by first | omega|(simp;omega))));clear d D p2 J L M N r0 r1 r2 V A B C;have D:=xG.o.cell 0;have A:=I.o.cell 0;have B:=I.o.cell 1;have C:=I.o.cell 2;have J:=j.o.cell 0;have L:=j.o.cell 1;have M:=j.o.cell 2;have N:=j.o.cell 3;have r0:=j.o.frozen 0;have r1:=j.o.frozen 1;have r2:=j.o.frozen 2;have V:=j.o.frozen 3;have hs9:=j.o.lt;clear b X;refine m.out _ _ ⟨D,A,B,C⟩ (fun g=>?_)
 (try simp only [Act.put,aaA,aaB,aaC])
 refine bf 7 rfl g ?_;simp only [Act.put,aaA,aaB,aaC];refine bf 8 rfl g ?_;simp only [Act.put,aaA,aaB,aaC];refine bf 9 rfl g ?_;simp only [Act.put,aaA,aaB,aaC];refine lY (i:=10) (.s (.s (.s (.s (.s (.s (.s (.s (.s (.s .z)))))))))) (by kernel_rfl) (by kernel_rfl) (by kernel_rfl) (fun _ _ _ h=>h) (v:=?_) ⟨by rfl,?_⟩ g ?_;rotate_left
 ·(intro w0 c;(try dsimp only at c);go_split_ands;go_simp;try with_reducible rfl)
 simp only [Act.put,aaA,aaB,aaC];refine lY (i:=11) (.s (.s (.s (.s (.s (.s (.s (.s (.s (.s (.s .z))))))))))) (by kernel_rfl) (by kernel_rfl) (by kernel_rfl) (fun _ _ _ h=>h) (v:=?_) ⟨by rfl,?_⟩ g ?_;rotate_left
 ·(intro w0 c;(try dsimp only at c);go_split_ands;go_simp;try with_reducible rfl)
 simp only [Act.put,aaA,aaB,aaC];refine lY (i:=12) (.s (.s (.s (.s (.s (.s (.s (.s (.s (.s (.s (.s .z)))))))))))) (by kernel_rfl) (by kernel_rfl) (by kernel_rfl) (fun _ _ _ h=>h) (v:=?_) ⟨by rfl,?_⟩ g ?_;rotate_left
 ·(intro w0 c;(try dsimp only at c);go_split_ands;go_simp;try with_reducible rfl)
 simp only [Act.put,aaA,aaB,aaC];refine zi (i:=13) (.s (.s (.s (.s (.s (.s (.s (.s (.s (.s (.s (.s (.s .z))))))))))))) (by kernel_rfl) (by kernel_rfl) (by kernel_rfl) (fun _ _ _ h=>h) (by rfl) g ?_;simp only [Act.put,aaA,aaB,aaC];refine zi (i:=14) (.s (.s (.s (.s (.s (.s (.s (.s (.s (.s (.s (.s (.s (.s .z)))))))))))))) (by kernel_rfl) (by kernel_rfl) (by kernel_rfl) (fun _ _ _ h=>h) (by rfl) g ?_;simp only [Act.put,aaA,aaB,aaC];refine zi (i:=15) (.s (.s (.s (.s (.s (.s (.s (.s (.s (.s (.s (.s (.s (.s (.s .z))))))))))))))) (by kernel_rfl) (by kernel_rfl) (by kernel_rfl) (fun _ _ _ h=>h) (by rfl) g ?_;simp only [Act.put,aaA,aaB,aaC];refine lY (i:=16) (.s (.s (.s (.s (.s (.s (.s (.s (.s (.s (.s (.s (.s (.s (.s (.s .z)))))))))))))))) (by kernel_rfl) (by kernel_rfl) (by kernel_rfl) (fun _ _ _ h=>h) (v:=?_) ⟨by rfl,?_⟩ g ?_;rotate_left
 ·(intro w0 c;(try dsimp only at c);go_split_ands;go_simp;try with_reducible rfl)
 simp only [Act.put,aaA,aaB,aaC];refine wpAnyH_ready (rs:=[17]) (by kernel_rfl) (by simp) ?_;refine fJ (.s (.s (.s (.s (.s (.s (.s (.s (.s (.s (.s (.s (.s (.s (.s (.s (.s .z))))))))))))))))) (fun K m=>?_);go_simp;refine m.out _ _ ?_ (fun Y=>?_)
 ·(refine⟨?_,?_,?_,?_⟩ <;> go_keep)
 (try simp only [Act.put,aaA,aaB,aaC])
 refine lY (i:=18) (.s (.s (.s (.s (.s (.s (.s (.s (.s (.s (.s (.s (.s (.s (.s (.s (.s (.s .z)))))))))))))))))) (by kernel_rfl) (by kernel_rfl) (by kernel_rfl) (fun _ _ _ h=>h) (v:=?_) ⟨by rfl,?_⟩ Y ?_;rotate_left
 ·(intro w0 c;(try dsimp only at c);go_split_ands;go_simp;try with_reducible rfl)
 simp only [Act.put,aaA,aaB,aaC];refine wpAnyH_done (by kernel_rfl) (NoPanic.normal ?_) _;go_wp2_with fail;refine bodyPost_ret (v:=.tuple #[.agg #[.bool false,.int .i64 0,.int .i64 0,.slice (some ⟨W.heap.size,0,none⟩) 1 1],.bool true]) (by simp [results,Tryz.f103,go_sem,J,L,M,N]) rfl ?_
 refine⟨_,_,_,_,_,_,_,rfl,?_,?_⟩
 ·repeat (first|(with_reducible exact kT.o)|(with_reducible refine dx ?_ ?_)|(with_reducible refine ah ?_ ?_)|(with_reducible refine Below.drew ?_) | omega|(simp;omega))
 ·rw [H.o]
  refine⟨rfl,rfl,rfl,rfl,rfl,aaJ _,?_⟩
  refine dS.one (T:=152) ?_;have hq:=(aC.drew (aC.new W 152 #[.int .i64 2,.int .i64 2,.func (.func 69) #[] #[]])).below Z.o (by simp)
  repeat (first|(with_reducible refine aC.far ?_ ?_ _)|(with_reducible refine aC.drew ?_) | exact hq|(simp;omega))
theorem shape_k0 (x:Bs)(n a:Int)(N:Option Addr)(R P:Nat)(w:World):Calls Tryz.prog 103 #[.agg #[.int .u8 0,.string (aM x),.int .i64 n,.slice N R P,.int .i64 a]] w (eB (Mist.shapeOf 0 n) w):=by
 have G:=O (show Mist.shapeOf 0 n=none from rfl);go_in
 go_wp2_with fail;refine (aG _ _).mono ?_;rintro e w1⟨rfl,m⟩;go_wp2_with fail;refine (aG _ _).mono ?_;rintro e w2⟨rfl,q⟩;go_wp2_with fail;refine (aG _ _).mono ?_;rintro e t⟨rfl,r⟩;have F:=O (fP m q r);have hz:=F.o.1;clear m q r;go_upto_region 5 with (fail)
 obtain⟨w5,Q,f,u,jO,vS,Y,Dv,-,k,-,-,-⟩:=F.o.2;rw [Q];clear Q hz F;have y:=k.o.cell 0;have A:=k.o.cell 1;have B:=k.o.cell 2;have Uk:=k.o.lt;have C:=u.o.cell 0;have p2:=u.o.cell 2;have I:=f.o.cell 0;have J:=f.o.cell 1;have L:=f.o.cell 2;have M:=f.o.cell 3;have r0:=f.o.frozen 0;have r1:=f.o.frozen 1;have r2:=f.o.frozen 2;have T:=f.o.frozen 3;go_wp2_with fail;have X:=u.o.lt;have W:w.heap.size ≠ t.heap.size:=fun e=>f.o.ne_ k.o (by decide) (by rw [e])
 refine wp_region_noPanic ?_;refine wp_region_held_drew (S:=fun D=>D.cell? ⟨w.heap.size,0,none⟩=some (.int .u8 0)∧D.cell? ⟨t.heap.size+1,0,none⟩=some (.int .i64 2)∧D.cell? ⟨t.heap.size+1,1,none⟩=some (.int .i64 2)∧D.cell? ⟨t.heap.size+1,2,none⟩=some (.func (.func 69) #[] #[])) (by kernel_rfl) ⟨C,y,A,B⟩ (fun b=>?_);refine bf 0 rfl b ?_;simp only [Act.put,aaA,aaB,aaC];refine bf 1 rfl b ?_;simp only [Act.put,aaA,aaB,aaC];refine bf 4 rfl b ?_;simp only [Act.put,aaA,aaB,aaC];refine bf 5 rfl b ?_;simp only [Act.put,aaA,aaB,aaC];refine bf 6 rfl b ?_;simp only [Act.put,aaA,aaB,aaC];refine wpAnyH_ready (rs:=[2]) (by kernel_rfl) (by simp) ?_;refine fJ (.s (.s .z)) (fun K l=>?_);go_simp;refine l.out _ _ ?_ (fun U=>?_)
 ·(refine⟨?_,?_,?_,?_⟩ <;> go_keep)
 (try simp only [Act.put,aaA,aaB,aaC])
 refine wpAnyH_ready (rs:=[3]) (by kernel_rfl) (by simp) ?_;refine fJ (.s (.s (.s .z))) (fun K l=>?_);go_simp;refine (uo _ _ _ _).mono ?_;rintro e E⟨rfl,d⟩;have TB:=O d;have xG:=O (show aC E w.heap.size 50 #[.int .u8 0,.string (aM x),.int .i64 n,.slice N R P,.int .i64 a] from aC.below (by repeat (first|(with_reducible exact u.o)|(with_reducible refine aC.alloc ?_ _)|(with_reducible refine aC.drew ?_))) d (by first | omega|(simp;omega)));have H:=O (show aC E (t.heap.size+1) 152 #[.int .i64 2,.int .i64 2,.func (.func 69) #[] #[]] from aC.below (by repeat (first|(with_reducible exact k.o)|(with_reducible refine aC.alloc ?_ _)|(with_reducible refine aC.drew ?_))) d (by first | omega|(simp;omega)));have j:=O (show aC E (w.heap.size+1) 119 #[.bool false,.int .i64 0,.int .i64 0,.slice none 0 0] from aC.below (by repeat (first|(with_reducible exact f.o)|(with_reducible refine aC.alloc ?_ _)|(with_reducible refine aC.drew ?_))) d (by first | omega|(simp;omega)));have kT:=O (show Below w.heap.size w E from Below.trans (by repeat (first|(with_reducible exact jO.o)|(with_reducible refine ah ?_ ?_)|(with_reducible refine Below.drew ?_) | omega|(simp;omega))) (d.mono (by first | omega|(simp;omega))));clear d C p2 I J L M r0 r1 r2 T y A B;have C:=xG.o.cell 0;have y:=H.o.cell 0;have A:=H.o.cell 1;have B:=H.o.cell 2;have I:=j.o.cell 0;have J:=j.o.cell 1;have L:=j.o.cell 2;have M:=j.o.cell 3;have r0:=j.o.frozen 0;have r1:=j.o.frozen 1;have r2:=j.o.frozen 2;have T:=j.o.frozen 3;have Z:=j.o.lt;clear b U;refine l.out _ _ ⟨C,y,A,B⟩ (fun g=>?_)
 (try simp only [Act.put,aaA,aaB,aaC])
 refine bf 7 rfl g ?_;simp only [Act.put,aaA,aaB,aaC];refine zi (i:=8) (.s (.s (.s (.s (.s (.s (.s (.s .z)))))))) (by kernel_rfl) (by kernel_rfl) (by kernel_rfl) (fun _ _ _ h=>h) (by rfl) g ?_;simp only [Act.put,aaA,aaB,aaC];refine zi (i:=9) (.s (.s (.s (.s (.s (.s (.s (.s (.s .z))))))))) (by kernel_rfl) (by kernel_rfl) (by kernel_rfl) (fun _ _ _ h=>h) (by rfl) g ?_;simp only [Act.put,aaA,aaB,aaC];refine zi (i:=10) (.s (.s (.s (.s (.s (.s (.s (.s (.s (.s .z)))))))))) (by kernel_rfl) (by kernel_rfl) (by kernel_rfl) (fun _ _ _ h=>h) (by rfl) g ?_;simp only [Act.put,aaA,aaB,aaC];refine lY (i:=11) (.s (.s (.s (.s (.s (.s (.s (.s (.s (.s (.s .z))))))))))) (by kernel_rfl) (by kernel_rfl) (by kernel_rfl) (fun _ _ _ h=>h) (v:=?_) ⟨by rfl,?_⟩ g ?_;rotate_left
 ·(intro w0 c;(try dsimp only at c);go_split_ands;go_simp;try with_reducible rfl)
 simp only [Act.put,aaA,aaB,aaC];refine lY (i:=12) (.s (.s (.s (.s (.s (.s (.s (.s (.s (.s (.s (.s .z)))))))))))) (by kernel_rfl) (by kernel_rfl) (by kernel_rfl) (fun _ _ _ h=>h) (v:=?_) ⟨by rfl,?_⟩ g ?_;rotate_left
 ·(intro w0 c;(try dsimp only at c);go_split_ands;go_simp;try with_reducible rfl)
 simp only [Act.put,aaA,aaB,aaC];refine lY (i:=13) (.s (.s (.s (.s (.s (.s (.s (.s (.s (.s (.s (.s (.s .z))))))))))))) (by kernel_rfl) (by kernel_rfl) (by kernel_rfl) (fun _ _ _ h=>h) (v:=?_) ⟨by rfl,?_⟩ g ?_;rotate_left
 ·(intro w0 c;(try dsimp only at c);go_split_ands;go_simp;try with_reducible rfl)
 simp only [Act.put,aaA,aaB,aaC];refine lY (i:=14) (.s (.s (.s (.s (.s (.s (.s (.s (.s (.s (.s (.s (.s (.s .z)))))))))))))) (by kernel_rfl) (by kernel_rfl) (by kernel_rfl) (fun _ _ _ h=>h) (v:=?_) ⟨by rfl,?_⟩ g ?_;rotate_left
 ·(intro w0 c;(try dsimp only at c);go_split_ands;go_simp;try with_reducible rfl)
 simp only [Act.put,aaA,aaB,aaC];refine lY (i:=15) (.s (.s (.s (.s (.s (.s (.s (.s (.s (.s (.s (.s (.s (.s (.s .z))))))))))))))) (by kernel_rfl) (by kernel_rfl) (by kernel_rfl) (fun _ _ _ h=>h) (v:=?_) ⟨by rfl,?_⟩ g ?_;rotate_left
 ·(intro w0 c;(try dsimp only at c);go_split_ands;go_simp;try with_reducible rfl)
 simp only [Act.put,aaA,aaB,aaC];refine lY (i:=16) (.s (.s (.s (.s (.s (.s (.s (.s (.s (.s (.s (.s (.s (.s (.s (.s .z)))))))))))))))) (by kernel_rfl) (by kernel_rfl) (by kernel_rfl) (fun _ _ _ h=>h) (v:=?_) ⟨by rfl,?_⟩ g ?_;rotate_left
 ·(intro w0 c;(try dsimp only at c);go_split_ands;go_simp;try with_reducible rfl)
 simp only [Act.put,aaA,aaB,aaC];refine wpAnyH_ready (rs:=[17]) (by kernel_rfl) (by simp) ?_;refine fJ (.s (.s (.s (.s (.s (.s (.s (.s (.s (.s (.s (.s (.s (.s (.s (.s (.s .z))))))))))))))))) (fun K l=>?_);go_simp;refine l.out _ _ ?_ (fun V=>?_)
 ·(refine⟨?_,?_,?_,?_⟩ <;> go_keep)
 (try simp only [Act.put,aaA,aaB,aaC])
 refine lY (i:=18) (.s (.s (.s (.s (.s (.s (.s (.s (.s (.s (.s (.s (.s (.s (.s (.s (.s (.s .z)))))))))))))))))) (by kernel_rfl) (by kernel_rfl) (by kernel_rfl) (fun _ _ _ h=>h) (v:=?_) ⟨by rfl,?_⟩ V ?_;rotate_left
 ·(intro w0 c;(try dsimp only at c);go_split_ands;go_simp;try with_reducible rfl)
 simp only [Act.put,aaA,aaB,aaC];refine wpAnyH_done (by kernel_rfl) (NoPanic.normal ?_) _;go_wp2_with fail;refine bodyPost_ret (v:=.tuple #[.agg #[.bool false,.int .i64 0,.int .i64 0,.slice (some ⟨w5.heap.size,0,none⟩) 1 1],.bool false]) (by simp [results,Tryz.f103,go_sem,I,J,L,M]) rfl ?_
 refine⟨_,_,_,_,_,_,_,rfl,?_,?_⟩
 ·repeat (first|(with_reducible exact kT.o)|(with_reducible refine dx ?_ ?_)|(with_reducible refine ah ?_ ?_)|(with_reducible refine Below.drew ?_) | omega|(simp;omega))
 ·rw [G.o]
end Go.Proofs.YthepmkjggfijoaaGreatDoor
namespace Go.Proofs.YthepmkjggfijoaaGreatDoor
open Go.RowKit Mist
theorem Pz (k:Nat)(x:Bs)(n a:Int)(b:Option Addr)(d c:Nat)(w:World):Calls Tryz.prog 103 #[.agg #[.int .u8 k,.string (aM x),.int .i64 n,.slice b d c,.int .i64 a]] w (eB (Mist.shapeOf k n) w):=by
 have e:k=0∨((27≤k∧k≤29)∨(35≤k∧k≤39)∨47≤k)∨k=1∨k=2∨k=3∨k=32∨k=45∨k=4∨k=5∨(6≤k∧k≤18)∨k=23∨k=19∨k=20∨k=21∨k=22∨k=25∨k=43∨k=44∨k=24∨k=26∨k=30∨k=31∨k=33∨k=34∨k=40∨k=41∨k=42∨k=46:=by omega
 rcases e with rfl | h | rfl | rfl | rfl | rfl | rfl | rfl | rfl | h | rfl | rfl | rfl | rfl | rfl | rfl | rfl | rfl | rfl | rfl | rfl | rfl | rfl | rfl | rfl | rfl | rfl | rfl
 ·exact shape_k0 x n a b d c w
 ·exact SY k x n a b d c w h
 ·exact shape_k1 x n a b d c w
 ·exact shape_k2 x n a b d c w
 ·exact shape_k3 x n a b d c w
 ·exact WQ x n a b d c w
 ·exact WY x n a b d c w
 ·exact shape_k4 x n a b d c w
 ·exact shape_k5 x n a b d c w
 ·exact shape_op k x n a b d c w h
 ·exact WI x n a b d c w
 ·exact WC x n a b d c w
 ·exact WE x n a b d c w
 ·exact WG x n a b d c w
 ·exact WH x n a b d c w
 ·exact WK x n a b d c w
 ·exact WW x n a b d c w
 ·exact WX x n a b d c w
 ·exact WJ x n a b d c w
 ·exact WL x n a b d c w
 ·exact WM x n a b d c w
 ·exact WO x n a b d c w
 ·exact WR x n a b d c w
 ·exact WS x n a b d c w
 ·exact WT x n a b d c w
 ·exact WU x n a b d c w
 ·exact WV x n a b d c w
 ·exact WZ x n a b d c w
end Go.Proofs.YthepmkjggfijoaaGreatDoor
