/-
  A part of the proof.
-/
import Derived.Test.YthepmkjggfijoaaGreatDoorSA
import Derived.Test.YthepmkjggfijoaaGreatDoorS28
import Derived.Test.YthepmkjggfijoaaGreatDoorL16
set_option linter.all false
set_option maxRecDepth 100000
set_option maxHeartbeats 2000000
namespace Go.Proofs.YthepmkjggfijoaaGreatDoor
open Go.RowKit Mist
attribute [local go_sem] aj aH aS aB ak
def ND (T:Tr)(a:Int):Int:=wm (fun x=>x.at_ == a) T.nodes
def SF (T:Tr)(a:Int):Int × Int:=if dN T ≠ 0 then (0,dN T) else if ND T a < 0 then (0,7) else (ND T a,0)
section
variable (xs:List NV) (its:List Int) (A:Option Addr) (n c:Nat) (w0:World) (a:Int) (B:Option Addr) (hT:mq w0 A B xs its) (hn:n=xs.length)
include hT hn
theorem Fq (V:n≤100000)(I:Nat)(w:World)(Q:Below w0.heap.size w0 w)(R:aC w I 3 #[.int .i64 a]) :
  Calls Tryz.prog 75 #[.slice A n c,.func (.func 76) #[] #[.pointer (some ⟨I,0,none⟩)]] w fun e L=>e=.returned (.int .i64 (ND ⟨aA xs,its⟩ a))∧Below w.heap.size w L:=by
 obtain⟨T,K⟩:∃ T:Tr,T=⟨aA xs,its⟩:=⟨_,rfl⟩;have H:=O (show T.nodes=aA xs by rw [K]);rw [← K];clear K;have N:=O hT;clear hT;have F:=O hn;clear hn;have D:=O Q;clear Q;have t:=O R;clear R;go_in
 go_wp2_with fail;go_loopw [8] (fun i wr=>∃ k:Nat,k≤n∧i=.int .i64 k∧Hid (((aA xs).take k).all (fun y=>!(y.at_ == a))=true)∧Hid (Below w.heap.size w wr)) (fun i _=>n - (intOf i).toNat)
 case atStart=>exact⟨0,aaL _,rfl,O rfl,O (Below.refl _ _)⟩
 case round =>
  obtain⟨u,rfl⟩:∃ u:World,u=wr:=⟨_,rfl⟩;obtain⟨k,hk,rfl,v,h⟩:=hrel;by_cases l:k < n
  ·obtain⟨b,o,rfl,f⟩:=N.o.nodes (by rw [← F.o];omega);obtain⟨x,j⟩:∃ x,xs[k]? = some x:=jD (by rw [← F.o];exact l);have d:=D.o.trans (h.o.mono D.o.size);have c0:=(d.cell (p:=⟨b,o+k * 5,none⟩) f.lt).trans (f.c0 k x j);have c1:=(d.cell (p:=⟨b,o+k * 5+1,none⟩) f.lt).trans (f.c1 k x j);have c2:=(d.cell (p:=⟨b,o+k * 5+2,none⟩) f.lt).trans (f.c2 k x j);have c3:=(d.cell (p:=⟨b,o+k * 5+3,none⟩) f.lt).trans (f.c3 k x j);have c4:=(d.cell (p:=⟨b,o+k * 5+4,none⟩) f.lt).trans (f.c4 k x j);obtain⟨S,U,r,W,J⟩:=f.kid j;rw [r] at c3
   have ta:=(t.o.below h.o t.o.lt).cell 0;have Y:=(t.o.below h.o t.o.lt).lt;have P:=O (gP j);clear f j r d J;have i1:(0:Int)≤(k:Int):=by omega
   have i2:(k:Int) < (n:Int):=by omega
   have X:decide (k < n)=true:=aaU l;have M:=O (show (aA xs).take (k+1)=(aA xs).take k ++ [x.1] by rw [List.take_add_one,P.o];rfl)
   have m:=O (show Calls Tryz.prog 76 #[.agg #[.int .u8 x.1.kind,.string (aM x.1.text),.int .i64 x.1.n,.slice S x.1.kids.length U,.int .i64 x.1.at_],.pointer (some ⟨I,0,none⟩)] u fun e L=>e=.returned (.bool (x.1.at_ == a))∧Below u.heap.size u L from by
    clear M v N D t H;go_enter Tryz.func76,Tryz.ntmps76
    go_wp2_with fail;go_ret;exact⟨rfl,ah (Below.refl _ _) (aaJ _)⟩)
   cases C:x.1.at_ == a
   ·have q:=O C;clear C;go_wp2_with fail;refine m.o.mono ?_;rintro e Z⟨rfl,g⟩;rw [q.o];have E:=O (h.o.trans (g.mono h.o.size));clear g;go_wp2_with fail;exact⟨⟨k+1,by omega,by go_num,O (by rw [M.o,List.all_append,v.o];simp [q.o]),E⟩,by simp [intOf];omega⟩
   ·have q:=O C;clear C
    have G:=O (show ND T a=(k:Int) by
     unfold ND;rw [H.o];exact zT v.o P.o q.o)
    go_wp2_with fail;refine m.o.mono ?_;rintro e Z⟨rfl,g⟩;rw [q.o];go_wp2_with fail;go_ret;exact⟨by rw [G.o];rfl,h.o.trans (g.mono h.o.size)⟩
  ·have G:=O (show ND T a=-1 by
    have h9:=v.o;rw [aaN (by rw [aD,← F.o];omega)] at h9
    unfold ND;rw [H.o];exact xZ h9)
   have X:decide (k < n)=false:=aaV l;go_wp2_with fail;go_ret;exact⟨by rw [G.o];rfl,h.o⟩
end
theorem XE (A B:Option Addr)(c d:Nat)(xs:List NV)(its:List Int)(a:Int)(w:World)(hT:mq w A B xs its)(C:xO (aA xs))(q:Env w)(hn:xs.length≤100000) :
  Calls Tryz.prog 31 #[.agg #[.slice A xs.length c,.slice B its.length d],.int .i64 a] w fun e I=>e=.returned (.tuple #[.int .i64 (SF ⟨aA xs,its⟩ a).1,.int .i64 (SF ⟨aA xs,its⟩ a).2])∧Below w.heap.size w I:=by
 have j:=O fun W (v:Below w.heap.size w W)=>jk A B c d xs its W (hT.below v) C (q.below v)
 have F:=O fun W (v:Below w.heap.size w W) ab ht=>Fq xs its A xs.length c w a B hT rfl hn ab W v ht
 obtain⟨T,D⟩:∃ T:Tr,T=⟨aA xs,its⟩:=⟨_,rfl⟩;rw [← D] at j F ⊢
 clear D hT C q hn;have h:=O ((aC.new w 26 #[.slice A xs.length c,.slice B its.length d]).alloc (.cells #[.int .i64 a] 3));have x:=O (dL (W:=w.alloc (.cells #[.slice A xs.length c,.slice B its.length d] 26)) (T:=3) (cs:=#[.int .i64 a]) (k:=w.heap.size+1) (by simp));have u:=O (ah (ah (Below.refl w.heap.size w) (aaJ _) (o:=.cells #[.slice A xs.length c,.slice B its.length d] 26)) (by simp) (o:=.cells #[.int .i64 a] 3));go_in
 go_wp2_with fail;refine (j.o _ u.o).mono ?_;rintro e M⟨rfl,g⟩;have y:=O (h.o.below g h.o.lt);have G:=O (x.o.below g x.o.lt);have t:=O (u.o.trans (g.mono u.o.size));clear g h x u;have K:=y.o.cell 0;have L:=y.o.cell 1;by_cases f:dN T=0
 case neg =>
  have i:=O (show SF T a=(0,dN T) by unfold SF;rw [if_pos f]);obtain⟨E,q⟩:∃ E,E=dN T:=⟨_,rfl⟩;rw [← q] at f i ⊢
  have J:(E != 0)=true:=by simpa using f
  clear q f;go_wp2_with fail;go_ret2
  exact⟨by rw [i.o];rfl,t.o⟩
 have l:=O f;rw [f];clear f;go_wp2_with fail;refine (F.o _ t.o _ G.o).mono ?_;rintro e N⟨rfl,r⟩;have m:=O (t.o.trans (r.mono t.o.size));clear r;by_cases b:ND T a < 0
 ·have H:decide (ND T a < 0)=true:=aaU b;have i:=O (show SF T a=(0,7) by unfold SF;rw [if_neg (by rw [l.o];simp),if_pos b]);clear b;go_wp2_with fail;go_ret2
  exact⟨by rw [i.o];rfl,m.o⟩
 ·have H:decide (ND T a < 0)=false:=aaV b;have i:=O (show SF T a=(ND T a,0) by unfold SF;rw [if_neg (by rw [l.o];simp),if_neg b]);clear b;go_wp2_with fail;go_ret2
  exact⟨by rw [i.o];rfl,m.o⟩
end Go.Proofs.YthepmkjggfijoaaGreatDoor
