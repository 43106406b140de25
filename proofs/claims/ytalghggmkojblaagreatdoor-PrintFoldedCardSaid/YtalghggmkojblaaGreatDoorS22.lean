/-
  A part of the proof.
-/
import Derived.Test.YtalghggmkojblaaGreatDoorS05
import Derived.Test.YtalghggmkojblaaGreatDoorS21
set_option linter.all false
set_option maxRecDepth 100000
set_option maxHeartbeats 4000000
set_option linter.all false
namespace Go.Proofs.YtalghggmkojblaaGreatDoor
section
open Go.RowKit Mist
attribute [local go_sem] ak aN aV aF aj
section
variable {S:Sz} {B g n c f i j q b2 b3 h:Nat} {cs:Array Value} {w W:World} {A Bi:Option Addr} {nv iv pv:Value} {ps l:List Pz} {xs:List NV} {its:List Int} {x y:NV}
theorem WW (w:World)(k:Nat)(os:Array Obj):Below w.heap.size w (Go.Sort.grow (w.drewN k) os) :=
 ⟨rfl,rfl,rfl,by show w.heap.size≤(w.heap ++ os).size;rw [Array.size_append];omega,fun b a=>Array.getElem?_append_left a⟩
theorem yC {w w0 a:World}(m:Pow w)(h0:Below w.heap.size w w0)(r:w.heap.size≤w0.heap.size){N:Int}(t:-1000000≤N)(u:N≤1000000)(b:Below w0.heap.size w0 a) :
  Calls Tryz.prog 33 #[.int .i64 N] a fun e d=>e=.returned (.string (aG (Go.Lib.itoa N)))∧Below w0.heap.size w0 d:=by
 refine (Tryz.strconv_Itoa N (by omega) (by omega) a (m.on (h0.trans (b.mono r))).here).mono ?_;rintro e v⟨rfl,k,os,rfl⟩;exact⟨rfl,b.trans ((WW a k os).mono b.size)⟩
def boolT (b:Bool):Bs:=if b then [116,114,117,101] else [102,97,108,115,101]
theorem adO (b:Bool)(W:World):Calls Tryz.prog 154 #[.bool b] W fun e a=>e=.returned (.string (aG (boolT b)))∧a=W:=by
 cases b <;>
 ·go_in
  go_wp2_with fail;go_ret;exact⟨rfl,rfl⟩
theorem agh (b:Bool)(W:World):Calls Tryz.prog 122 #[.bool b] W fun e a=>e=.returned (.string (aG (boolT b)))∧a=W:=by
 go_in
 go_wp2_with fail;refine (adO b W).mono ?_;rintro e d⟨rfl,rfl⟩;go_wp2_with fail;go_ret;exact⟨rfl,rfl⟩
theorem aaS (H:Hid (PZ S B g w W (.slice A n c) iv pv ps))(X:CX w B A Bi n xs its)(K:KX w B g A n c iv xs its f i x)(Z:x.1.kind=1)(hf:0 < f)(n0:-1000000≤x.1.n)(n1:x.1.n≤1000000)
  (hl:ps.length+([tz (Go.Lib.itoa x.1.n) (i:Int)]).length≤1000000) :
  Calls Tryz.prog 88 #[.pointer (some ⟨g,0,none⟩),.int .i64 i] W (lW S B g w (.slice A n c) iv (iL ps ([tz (Go.Lib.itoa x.1.n) (i:Int)]))):=by
 have hi:i < n:=by rw [← X.len];exact (amG.1 K.hx).1
 obtain⟨b,o,hA,N⟩:=(X.at_ H.o).nodes (by have:=X.len;omega);have Y:=O N.lt;obtain⟨D,kc,r,hkl,Q⟩:=X.kids H.o K.hx;obtain⟨m,R⟩:∃ m,m=x.1.kids.length:=⟨_,rfl⟩;subst hA;have y0:(0:Int)≤(i:Int):=by omega
 have y1:(i:Int) < (n:Int):=by omega
 have hg:=H.o.blk.lt;have EB:=O (show kY x=#[.int .u8 1,.string (aG x.1.text),.int .i64 x.1.n,.slice D m kc,.int .i64 x.1.at_] from by unfold kY;rw [Z,r,R];rfl);have F:=yR i H;have k:=Uv W g i;have d:=O (Ut W g i);have t:=O N;have xA:=O r;have uU:=O (show x.1.kind=1 from Z);have HL:=O hl;have M:=O X;have v:=O K;have HM:=O R;have P:=Y.o;clear H r Q hl X K R N;have N0:=O n0;have N1:=O n1;clear n0 n1;go_in
 go_upto_region 1 with (fail)
 generalize (W.alloc (.cells #[.pointer (some ⟨g,0,none⟩)] 54)).alloc (.cells #[.int .i64 (i:Nat)] 3)=w0 at F k d ⊢
 have c0:w0.cell? ⟨g,0,none⟩=some (.slice (some ⟨b,o,none⟩) n c):=F.o.blk.cell 0;obtain⟨d2,d3⟩:=kQ F;have T:=O k;have ug:g < w0.heap.size:=by omega
 have ub:b < w0.heap.size:=by omega
 have uW:W.heap.size < w0.heap.size:=by omega
 have Cv:W.heap.size+1 < w0.heap.size:=by omega
 clear k;have k0:w0.cell? ⟨b,o+i * 5,none⟩=some (.int .u8 1):=by have h:=(t.o.below d.o).c0 i x v.o.hx;rw [uU.o] at h;exact h
 have k1:w0.cell? ⟨b,o+i * 5+1,none⟩=some (.string (aG x.1.text)):=(t.o.below d.o).c1 i x v.o.hx;have k2:w0.cell? ⟨b,o+i * 5+2,none⟩=some (.int .i64 x.1.n):=(t.o.below d.o).c2 i x v.o.hx;have k4:w0.cell? ⟨b,o+i * 5+4,none⟩=some (.int .i64 x.1.at_):=(t.o.below d.o).c4 i x v.o.hx;have k3:w0.cell? ⟨b,o+i * 5+3,none⟩=some (.slice D m kc):=by rw [HM.o,← xA.o];exact (t.o.below d.o).c3 i x v.o.hx
 go_region
 have C:=Uu i #[.int .u8 1,.string (aG x.1.text),.int .i64 x.1.n,.slice D m kc,.int .i64 x.1.at_] T.o F;rw [T.o]
 generalize (w0.alloc (.cells #[.int .u8 1,.string (aG x.1.text),.int .i64 x.1.n,.slice D m kc,.int .i64 x.1.at_] 56)).drew=jD at C ⊢
 clear P c0 k0 k1 k2 k3 k4 d2 d3 F uW Cv ug ub T d t Y y0 y1;obtain⟨c2,c3,a,G,I⟩:=dB C;have L:=O fun (W2:World) (J:Below jD.heap.size jD W2)=>yC M.o.pow (C.o.MF.mono M.o.b) (Nat.le_trans M.o.b C.o.lw) N0.o N1.o J
 go_upto_region 6 with (fail)
 go_region_held3 (fun U=>U.cell? ⟨W.heap.size,0,none⟩=some (.pointer (some ⟨g,0,none⟩))∧U.cell? ⟨W.heap.size+1,0,none⟩=some (.int .i64 (i:Nat))∧U.cell? ⟨W.heap.size+2,2,none⟩=some (.int .i64 x.1.n)) (first | go_keep|(go_split_ands;refine⟨?_,?_,?_⟩ <;> assumption))
  ((first
    | (go_at_call 33
       refine (L.o _ (by (repeat (first|(with_reducible exact Below.refl _ _)|(with_reducible refine Below.drew ?_)));done)).mono ?_;rintro e wA⟨rfl,J⟩;have u:=O (C.o.below J);clear c2 c3 a G I J;obtain⟨c2,c3,a,G,I⟩:=dB u)
    | (go_at_call 46
       refine (Cy (S:=xS W.heap.size g i #[.int .u8 1,.string (aG x.1.text),.int .i64 x.1.n,.slice D m kc,.int .i64 x.1.at_] S) (by first | exact u | exact O u.o.drew | exact O u.o.drew.drew | exact O (u.o.drewN _)) (Go.Lib.itoa x.1.n) (i:Int) (by have:=HL.o;simp [au] at this;omega)).mono ?_;rintro e w1⟨yK,rfl,V⟩;clear c2 c3 a G I;obtain⟨c2,c3,a,G,I⟩:=dB V)))
 all_goals
  go_wp2_with fail;go_end0
  exact⟨_,rfl,O V.o.xe⟩
theorem WK (H:Hid (PZ S B g w W (.slice A n c) iv pv ps))(X:CX w B A Bi n xs its)(K:KX w B g A n c iv xs its f i x)(N:x.1.kind=2)(hf:0 < f)
  (J:ps.length+(bQ ⟨aH xs,its⟩ (aQ ⟨aH xs,its⟩ f) i).length≤1000000) :
  Calls Tryz.prog 88 #[.pointer (some ⟨g,0,none⟩),.int .i64 i] W (lW S B g w (.slice A n c) iv (iL ps (bQ ⟨aH xs,its⟩ (aQ ⟨aH xs,its⟩ f) i))):=by
 have en:=E8 (T:=⟨aH xs,its⟩) (B:=aQ ⟨aH xs,its⟩ f) (i:=i) (by rw [bD its K.hx];exact N)
 try rw [bD its K.hx] at en
 rw [en] at J ⊢
 clear en;obtain⟨I,d⟩:∃ b,b=(x.1.n == 1):=⟨_,rfl⟩;have F:(if x.1.n=1 then ([116,114,117,101]:Bs) else [102,97,108,115,101])=boolT I:=by rw [d];unfold boolT;by_cases e:x.1.n=1 <;> simp [e]
 rw [F] at J ⊢
 have zb:(x.1.n == 1)=I:=d.symm;clear d F;have hi:i < n:=by rw [← X.len];exact (amG.1 K.hx).1
 obtain⟨b,o,hA,L⟩:=(X.at_ H.o).nodes (by have:=X.len;omega);have Y:=O L.lt;obtain⟨C,kc,r,hkl,P⟩:=X.kids H.o K.hx;obtain⟨m,Q⟩:∃ m,m=x.1.kids.length:=⟨_,rfl⟩;subst hA;have y0:(0:Int)≤(i:Int):=by omega
 have y1:(i:Int) < (n:Int):=by omega
 have hg:=H.o.blk.lt;have EB:=O (show kY x=#[.int .u8 2,.string (aG x.1.text),.int .i64 x.1.n,.slice C m kc,.int .i64 x.1.at_] from by unfold kY;rw [N,r,Q];rfl);have G:=yR i H;have k:=Uv W g i;have a:=O (Ut W g i);have t:=O L;have xA:=O r;have uU:=O (show x.1.kind=2 from N);have HL:=O J;have HX:=O X;have v:=O K;have HM:=O Q;have M:=Y.o;clear H r P J X K Q L;go_in
 go_upto_region 1 with (fail)
 generalize (W.alloc (.cells #[.pointer (some ⟨g,0,none⟩)] 54)).alloc (.cells #[.int .i64 (i:Nat)] 3)=w0 at G k a ⊢
 have c0:w0.cell? ⟨g,0,none⟩=some (.slice (some ⟨b,o,none⟩) n c):=G.o.blk.cell 0;obtain⟨d2,d3⟩:=kQ G;have R:=O k;have ug:g < w0.heap.size:=by omega
 have ub:b < w0.heap.size:=by omega
 have uW:W.heap.size < w0.heap.size:=by omega
 have Cv:W.heap.size+1 < w0.heap.size:=by omega
 clear k;have k0:w0.cell? ⟨b,o+i * 5,none⟩=some (.int .u8 2):=by have h:=(t.o.below a.o).c0 i x v.o.hx;rw [uU.o] at h;exact h
 have k1:w0.cell? ⟨b,o+i * 5+1,none⟩=some (.string (aG x.1.text)):=(t.o.below a.o).c1 i x v.o.hx;have k2:w0.cell? ⟨b,o+i * 5+2,none⟩=some (.int .i64 x.1.n):=(t.o.below a.o).c2 i x v.o.hx;have k4:w0.cell? ⟨b,o+i * 5+4,none⟩=some (.int .i64 x.1.at_):=(t.o.below a.o).c4 i x v.o.hx;have k3:w0.cell? ⟨b,o+i * 5+3,none⟩=some (.slice C m kc):=by rw [HM.o,← xA.o];exact (t.o.below a.o).c3 i x v.o.hx
 go_region
 have u:=Uu i #[.int .u8 2,.string (aG x.1.text),.int .i64 x.1.n,.slice C m kc,.int .i64 x.1.at_] R.o G;rw [R.o]
 generalize (w0.alloc (.cells #[.int .u8 2,.string (aG x.1.text),.int .i64 x.1.n,.slice C m kc,.int .i64 x.1.at_] 56)).drew=jD at u ⊢
 clear M c0 k0 k1 k2 k3 k4 d2 d3 G uW Cv ug ub R a t Y y0 y1;obtain⟨c2,c3,D,Z,gF⟩:=dB u;go_upto_region 8 with (fail)
 go_region_held3 (fun U=>U.cell? ⟨W.heap.size,0,none⟩=some (.pointer (some ⟨g,0,none⟩))∧U.cell? ⟨W.heap.size+1,0,none⟩=some (.int .i64 (i:Nat))∧U.cell? ⟨W.heap.size+2,2,none⟩=some (.int .i64 x.1.n)) (first | go_keep|(go_split_ands;refine⟨?_,?_,?_⟩ <;> assumption))
  ((first
    | (go_at_call 122
       refine (agh I _).mono ?_;rintro e wA⟨rfl,rfl⟩)
    | (go_at_call 46
       refine (Cy (S:=xS W.heap.size g i #[.int .u8 2,.string (aG x.1.text),.int .i64 x.1.n,.slice C m kc,.int .i64 x.1.at_] S) (by first | exact u | exact O u.o.drew | exact O u.o.drew.drew | exact O (u.o.drewN _)) (boolT I) (i:Int) (by have:=HL.o;simp [au] at this;omega)).mono ?_;rintro e w1⟨yK,rfl,V⟩;clear c2 c3 D Z gF;obtain⟨c2,c3,D,Z,gF⟩:=dB V)))
 all_goals
  go_wp2_with fail;go_end0
  exact⟨_,rfl,O V.o.xe⟩
theorem aaR (H:Hid (PZ S B g w W (.slice A n c) iv pv ps))(X:CX w B A Bi n xs its)(K:KX w B g A n c iv xs its f i x)(V:x.1.kind=5)(hf:0 < f)(hm1:x.1.kids.length=1)(E:∀ j,j < x.1.kids.length→KE w B g A n c iv xs its f x j)
  (Z:ps.length+(bQ ⟨aH xs,its⟩ (aQ ⟨aH xs,its⟩ f) i).length≤1000000) :
  Calls Tryz.prog 88 #[.pointer (some ⟨g,0,none⟩),.int .i64 i] W (lW S B g w (.slice A n c) iv (iL ps (bQ ⟨aH xs,its⟩ (aQ ⟨aH xs,its⟩ f) i))):=by
 have en:=Fa (T:=⟨aH xs,its⟩) (B:=aQ ⟨aH xs,its⟩ f) (i:=i) (by rw [bD its K.hx];exact V)
 try rw [bD its K.hx] at en
 rw [en] at Z ⊢
 clear en;have hi:i < n:=by rw [← X.len];exact (amG.1 K.hx).1
 obtain⟨b,o,hA,R⟩:=(X.at_ H.o).nodes (by have:=X.len;omega);have HB:=O R.lt;obtain⟨G,kc,r,hkl,Y⟩:=X.kids H.o K.hx;obtain⟨m,hm⟩:∃ m,m=x.1.kids.length:=⟨_,rfl⟩;subst hA;have y0:(0:Int)≤(i:Int):=by omega
 have y1:(i:Int) < (n:Int):=by omega
 have hg:=H.o.blk.lt;have EB:=O (show kY x=#[.int .u8 5,.string (aG x.1.text),.int .i64 x.1.n,.slice G m kc,.int .i64 x.1.at_] from by unfold kY;rw [V,r,hm];rfl);have J:=yR i H;have k:=Uv W g i;have d:=O (Ut W g i);have u:=O R;have xA:=O r;have uU:=O (show x.1.kind=5 from V);have HL:=O Z;have HX:=O X;have t:=O K;have HM:=O hm;have HE:=O E;have U:=HB.o;clear H r Y Z X K hm R E;go_in
 go_upto_region 1 with (fail)
 generalize (W.alloc (.cells #[.pointer (some ⟨g,0,none⟩)] 54)).alloc (.cells #[.int .i64 (i:Nat)] 3)=w0 at J k d ⊢
 have c0:w0.cell? ⟨g,0,none⟩=some (.slice (some ⟨b,o,none⟩) n c):=J.o.blk.cell 0;obtain⟨d2,d3⟩:=kQ J;have mP:=O k;have ug:g < w0.heap.size:=by omega
 have ub:b < w0.heap.size:=by omega
 have uW:W.heap.size < w0.heap.size:=by omega
 have Cv:W.heap.size+1 < w0.heap.size:=by omega
 clear k;have k0:w0.cell? ⟨b,o+i * 5,none⟩=some (.int .u8 5):=by have h:=(u.o.below d.o).c0 i x t.o.hx;rw [uU.o] at h;exact h
 have k1:w0.cell? ⟨b,o+i * 5+1,none⟩=some (.string (aG x.1.text)):=(u.o.below d.o).c1 i x t.o.hx;have k2:w0.cell? ⟨b,o+i * 5+2,none⟩=some (.int .i64 x.1.n):=(u.o.below d.o).c2 i x t.o.hx;have k4:w0.cell? ⟨b,o+i * 5+4,none⟩=some (.int .i64 x.1.at_):=(u.o.below d.o).c4 i x t.o.hx;have k3:w0.cell? ⟨b,o+i * 5+3,none⟩=some (.slice G m kc):=by rw [HM.o,← xA.o];exact (u.o.below d.o).c3 i x t.o.hx
 go_region
 have P:=Uu i #[.int .u8 5,.string (aG x.1.text),.int .i64 x.1.n,.slice G m kc,.int .i64 x.1.at_] mP.o J;rw [mP.o]
 generalize (w0.alloc (.cells #[.int .u8 5,.string (aG x.1.text),.int .i64 x.1.n,.slice G m kc,.int .i64 x.1.at_] 56)).drew=jD at P ⊢
 clear U c0 k0 k1 k2 k3 k4 d2 d3 J uW Cv ug ub mP d u HB y0 y1;obtain⟨c2,c3,a,v,C⟩:=dB P;have HW:=O fun (W2:World) (L:Below jD.heap.size jD W2)=>VR L
 go_upto_region 18 with (fail)
 go_region_held3 (fun w'=>w'.cell? ⟨W.heap.size,0,none⟩=some (.pointer (some ⟨g,0,none⟩))∧w'.cell? ⟨W.heap.size+1,0,none⟩=some (.int .i64 (i:Nat))∧w'.cell? ⟨W.heap.size+2,0,none⟩=some (.int .u8 5)) (first | go_keep|(go_split_ands;refine⟨?_,?_,?_⟩ <;> assumption))
  ((first
    | (go_at_call 123
       refine (HW.o _ (by (repeat (first|(with_reducible exact Below.refl _ _)|(with_reducible refine Below.drew ?_)));done)).mono ?_;rintro e D⟨M,cc,rfl,I,L⟩;have F:=O (P.o.below L);have hlk:(Instr.lookup 97 (.map (some M)) (.int .u8 5) false).run Tryz.prog D=.ok (.string (aG [110,111,116])) D:=AO D M cc I 5;have Q:(Instr.lookup 97 (.map (some M)) (.int .u8 5) false).run Tryz.prog D.drew=.ok (.string (aG [110,111,116])) D.drew:=AO D.drew M cc I 5;clear c2 c3 a v C L;obtain⟨c2,c3,a,v,C⟩:=dB F)
    | (go_at_call 46
       refine (Cy (S:=xS W.heap.size g i #[.int .u8 5,.string (aG x.1.text),.int .i64 x.1.n,.slice G m kc,.int .i64 x.1.at_] S) (by first | exact F | exact O F.o.drew | exact O F.o.drew.drew | exact O (F.o.drewN _)) ([110,111,116]) (i:Int) (by have:=HL.o;simp [au] at this;omega)).mono ?_;rintro e w1⟨yK,rfl,N⟩;clear hlk Q c2 c3 a v C;obtain⟨c2,c3,a,v,C⟩:=dB N)))
 all_goals
  go_wp2_with fail;refine (Va (U_ N HX.o t.o (Ja _ _ _ _ _) (Mq _ _ _ _ _) (j:=0) (by omega) (HE.o 0 (by omega)) (by have:=HL.o;rw [d_];simp [au] at this ⊢;omega)) (by simp)).mono ?_;rintro e w2⟨nC,rfl,H2⟩;clear c2 c3 a v C N;obtain⟨c2,c3,a,v,C⟩:=dB H2;go_wp2_with fail;go_end0
  exact⟨_,rfl,O (by have h:=H2.o.xe;simpa [List.append_assoc] using h)⟩
end
end
set_option linter.all false
end Go.Proofs.YtalghggmkojblaaGreatDoor
namespace Mist
theorem agQ (Q:List Pz){k:List Pz}(h:k ≠ []):∃ p,(iL Q k)[Q.length]? = some p∧p.text=(k.headD default).text:=by
 cases k with
 | nil=>exact absurd rfl h
 | cons x r=>exact⟨⟨x.text,decide (0 < Q.length),x.node⟩,by unfold iL;rw [List.getElem?_append_right (amL _),Nat.sub_self];rfl,rfl⟩
def Sv (i:Int)(k0 k1 k2:List Pz):Nat→List Pz
 | 0=>[]
 | 1=>[tz [105,102] i] ++ cZ true k0
 | 2=>[tz [105,102] i] ++ cZ true k0 ++ [lz [116,104,101,110] (-1)] ++ cZ true k1
 | _=>[tz [105,102] i] ++ cZ true k0 ++ [lz [116,104,101,110] (-1)] ++ cZ true k1 ++ [lz [101,108,115,101] (-1)] ++ cZ true k2
end Mist
namespace Go.Proofs.YtalghggmkojblaaGreatDoor
section
open Go.RowKit Mist
attribute [local go_sem] ak aN aV aF aj
section
variable {S:Sz} {B g n c f i j q b2 b3 h:Nat} {cs:Array Value} {w W:World} {A Bi:Option Addr} {nv iv pv:Value} {ps l:List Pz} {xs:List NV} {its:List Int} {x y:NV}
theorem aaQ (H:Hid (PZ S B g w W (.slice A n c) iv pv ps))(X:CX w B A Bi n xs its)(K:KX w B g A n c iv xs its f i x)(hk:x.1.kind=4)(hf:0 < f)(hm1:x.1.kids.length=1)(E:∀ j,j < x.1.kids.length→KE w B g A n c iv xs its f x j)
  (hl:ps.length+(bQ ⟨aH xs,its⟩ (aQ ⟨aH xs,its⟩ f) i).length≤1000000) :
  Calls Tryz.prog 88 #[.pointer (some ⟨g,0,none⟩),.int .i64 i] W (lW S B g w (.slice A n c) iv (iL ps (bQ ⟨aH xs,its⟩ (aQ ⟨aH xs,its⟩ f) i))):=by
 have en:=E_ (T:=⟨aH xs,its⟩) (B:=aQ ⟨aH xs,its⟩ f) (i:=i) (by rw [bD its K.hx];exact hk)
 try rw [bD its K.hx] at en
 rw [en] at hl ⊢
 clear en;have hi:i < n:=by rw [← X.len];exact (amG.1 K.hx).1
 obtain⟨b,o,hA,J⟩:=(X.at_ H.o).nodes (by have:=X.len;omega);have HB:=O J.lt;obtain⟨Ka,kc,F,hkl,hki⟩:=X.kids H.o K.hx;obtain⟨m,hm⟩:∃ m,m=x.1.kids.length:=⟨_,rfl⟩;subst hA;have y0:(0:Int)≤(i:Int):=by omega
 have y1:(i:Int) < (n:Int):=by omega
 have hg:=H.o.blk.lt;have EB:=O (show kY x=#[.int .u8 4,.string (aG x.1.text),.int .i64 x.1.n,.slice Ka m kc,.int .i64 x.1.at_] from by unfold kY;rw [hk,F,hm];rfl);have jR:=yR i H;have D:=Uv W g i;have r:=O (Ut W g i);have I:=O J;have xA:=O F;have uU:=O (show x.1.kind=4 from hk);have K1:=O (K.ne hf 0 (.inr rfl));have HL:=O hl;have HX:=O X;have G:=O K;have HM:=O hm;have HE:=O E;have hbw:=HB.o;clear H F hki hl X K hm J E;go_in
 go_upto_region 1 with (fail)
 generalize (W.alloc (.cells #[.pointer (some ⟨g,0,none⟩)] 54)).alloc (.cells #[.int .i64 (i:Nat)] 3)=w0 at jR D r ⊢
 have c0:w0.cell? ⟨g,0,none⟩=some (.slice (some ⟨b,o,none⟩) n c):=jR.o.blk.cell 0;obtain⟨Q,d3⟩:=kQ jR;have mP:=O D;have ug:g < w0.heap.size:=by omega
 have ub:b < w0.heap.size:=by omega
 have uW:W.heap.size < w0.heap.size:=by omega
 have Cv:W.heap.size+1 < w0.heap.size:=by omega
 clear D;have k0:w0.cell? ⟨b,o+i * 5,none⟩=some (.int .u8 4):=by have h:=(I.o.below r.o).c0 i x G.o.hx;rw [uU.o] at h;exact h
 have k1:w0.cell? ⟨b,o+i * 5+1,none⟩=some (.string (aG x.1.text)):=(I.o.below r.o).c1 i x G.o.hx;have k2:w0.cell? ⟨b,o+i * 5+2,none⟩=some (.int .i64 x.1.n):=(I.o.below r.o).c2 i x G.o.hx;have k4:w0.cell? ⟨b,o+i * 5+4,none⟩=some (.int .i64 x.1.at_):=(I.o.below r.o).c4 i x G.o.hx;have k3:w0.cell? ⟨b,o+i * 5+3,none⟩=some (.slice Ka m kc):=by rw [HM.o,← xA.o];exact (I.o.below r.o).c3 i x G.o.hx
 go_region
 have HS:=Uu i #[.int .u8 4,.string (aG x.1.text),.int .i64 x.1.n,.slice Ka m kc,.int .i64 x.1.at_] mP.o jR;rw [mP.o]
 generalize (w0.alloc (.cells #[.int .u8 4,.string (aG x.1.text),.int .i64 x.1.n,.slice Ka m kc,.int .i64 x.1.at_] 56)).drew=jD at HS ⊢
 clear hbw c0 k0 k1 k2 k3 k4 Q d3 jR uW Cv ug ub mP r I HB y0 y1;obtain⟨c2,c3,a,R,U⟩:=dB HS;obtain⟨M,hM⟩:∃ M,M=(iL ps [tz [45] (i:Int)]).length:=⟨_,rfl⟩;have k:=O hM;have hMl:M≤1000000:=by have:=HL.o;rw [hM,d_];simp [au] at this ⊢;omega
 clear hM;go_wp2_with fail;refine (Cy HS [45] (i:Int) (by have:=HL.o;simp [au] at this;omega)).mono ?_;rintro e w1⟨yK,rfl,L⟩;clear c2 c3 a R U HS;obtain⟨c2,c3,a,R,U⟩:=dB L;obtain⟨A1,cc1,V⟩:=dA L.o.own;have Q:w1.cell? ⟨g,2,none⟩=some (.slice A1 M cc1):=by rw [k.o,← V];exact L.o.blk.cell 2
 clear V;go_wp2_with fail;clear Q;refine (U_ L HX.o G.o (Ja _ _ _ _ _) (Mq _ _ _ _ _) (j:=0) (by omega) (HE.o 0 (by omega)) (by have:=HL.o;rw [d_];simp [au] at this ⊢;omega)).mono ?_;rintro e w2⟨nC,rfl,P⟩;clear c2 c3 a R U L;obtain⟨c2,c3,a,R,U⟩:=dB P;obtain⟨pp,Y,u⟩:=agQ (iL ps [tz [45] (i:Int)]) K1.o;obtain⟨gp,cap,C,v,Z⟩:=P.o.text Y;rw [← k.o] at v Z
 obtain⟨N,J⟩:∃ N,N=(iL (iL ps [tz [45] (i:Int)]) (dU ⟨aH xs,its⟩ (aQ ⟨aH xs,its⟩ f) i 0)).length:=⟨_,rfl⟩;rw [← J] at C Z
 have Q:w2.cell? ⟨g,2,none⟩=some (.slice (some ⟨gp,0,none⟩) N cap):=by rw [← C];exact P.o.blk.cell 2
 have y0:(0:Int)≤(M:Int):=by omega
 have y1:(M:Int) < (N:Int):=by omega
 obtain⟨tt,htt⟩:∃ t,t=pp.text:=⟨_,rfl⟩;rw [← htt] at v u
 have HT:=O u;clear Y u C J htt;by_cases d:tt=[45]
 ·have z1:(tt == [45])=true:=by rw [d];rfl
  have z2:(tt != [45])=false:=by rw [d];rfl
  have HD:=O (show decide (((dU ⟨aH xs,its⟩ (aQ ⟨aH xs,its⟩ f) i 0).headD default).text=[45])=true from by rw [← HT.o,d];rfl);clear d;go_wp2_with fail;go_end0
  exact⟨_,rfl,O (by have h:=P.o.xe;rw [tJ ps _ _ (by simp)] at h;rw [HD.o];exact h)⟩
 ·have z1:(tt == [45])=false:=by simpa using d
  have z2:(tt != [45])=true:=by simpa using d
  have HD:=O (show decide (((dU ⟨aH xs,its⟩ (aQ ⟨aH xs,its⟩ f) i 0).headD default).text=[45])=false from by rw [← HT.o];simpa using d);clear d;go_wp2_with fail;refine (cl1 P M hMl).mono ?_;rintro e w3⟨uY,rfl,H3⟩;clear c2 c3 a R U Q v;go_wp2_with fail;go_end0
  exact⟨_,rfl,O (by have h:=H3.o.xe;rw [k.o,wJ,← wO ps (by simp)] at h;rw [HD.o];exact h)⟩
theorem adU (H:Hid (PZ S B g w W (.slice A n c) iv pv ps))(X:CX w B A Bi n xs its)(K:KX w B g A n c iv xs its f i x)(hk:x.1.kind=19)(hf:0 < f)(hm1:x.1.kids.length=3)(E:∀ j,j < x.1.kids.length→KE w B g A n c iv xs its f x j)
  (hl:ps.length+(bQ ⟨aH xs,its⟩ (aQ ⟨aH xs,its⟩ f) i).length≤1000000) :
  Calls Tryz.prog 88 #[.pointer (some ⟨g,0,none⟩),.int .i64 i] W (lW S B g w (.slice A n c) iv (iL ps (bQ ⟨aH xs,its⟩ (aQ ⟨aH xs,its⟩ f) i))):=by
 have en:=AV (T:=⟨aH xs,its⟩) (B:=aQ ⟨aH xs,its⟩ f) (i:=i) (by rw [bD its K.hx];exact hk)
 try rw [bD its K.hx] at en
 rw [en] at hl ⊢
 clear en;have hi:i < n:=by rw [← X.len];exact (amG.1 K.hx).1
 obtain⟨b,o,hA,hN⟩:=(X.at_ H.o).nodes (by have:=X.len;omega);have HB:=O hN.lt;obtain⟨N,kc,G,hkl,hki⟩:=X.kids H.o K.hx;obtain⟨m,hm⟩:∃ m,m=x.1.kids.length:=⟨_,rfl⟩;subst hA;have y0:(0:Int)≤(i:Int):=by omega
 have y1:(i:Int) < (n:Int):=by omega
 have hg:=H.o.blk.lt;have EB:=O (show kY x=#[.int .u8 19,.string (aG x.1.text),.int .i64 x.1.n,.slice N m kc,.int .i64 x.1.at_] from by unfold kY;rw [hk,G,hm];rfl);have R:=yR i H;have F:=Uv W g i;have C:=O (Ut W g i);have L:=O hN;have xA:=O G;have uU:=O (show x.1.kind=19 from hk);have J:=O hl;have HX:=O X;have u:=O K;have HM:=O hm;have V:=O E;have hbw:=HB.o;clear H G hki hl X K hm hN E;go_in
 go_upto_region 1 with (fail)
 generalize (W.alloc (.cells #[.pointer (some ⟨g,0,none⟩)] 54)).alloc (.cells #[.int .i64 (i:Nat)] 3)=w0 at R F C ⊢
 have c0:w0.cell? ⟨g,0,none⟩=some (.slice (some ⟨b,o,none⟩) n c):=R.o.blk.cell 0;obtain⟨d2,d3⟩:=kQ R;have mP:=O F;have ug:g < w0.heap.size:=by omega
 have ub:b < w0.heap.size:=by omega
 have uW:W.heap.size < w0.heap.size:=by omega
 have Cv:W.heap.size+1 < w0.heap.size:=by omega
 clear F;have k0:w0.cell? ⟨b,o+i * 5,none⟩=some (.int .u8 19):=by have h:=(L.o.below C.o).c0 i x u.o.hx;rw [uU.o] at h;exact h
 have k1:w0.cell? ⟨b,o+i * 5+1,none⟩=some (.string (aG x.1.text)):=(L.o.below C.o).c1 i x u.o.hx;have k2:w0.cell? ⟨b,o+i * 5+2,none⟩=some (.int .i64 x.1.n):=(L.o.below C.o).c2 i x u.o.hx;have k4:w0.cell? ⟨b,o+i * 5+4,none⟩=some (.int .i64 x.1.at_):=(L.o.below C.o).c4 i x u.o.hx;have k3:w0.cell? ⟨b,o+i * 5+3,none⟩=some (.slice N m kc):=by rw [HM.o,← xA.o];exact (L.o.below C.o).c3 i x u.o.hx
 go_region
 have Z:=Uu i #[.int .u8 19,.string (aG x.1.text),.int .i64 x.1.n,.slice N m kc,.int .i64 x.1.at_] mP.o R;rw [mP.o]
 generalize (w0.alloc (.cells #[.int .u8 19,.string (aG x.1.text),.int .i64 x.1.n,.slice N m kc,.int .i64 x.1.at_] 56)).drew=jD at Z ⊢
 clear hbw c0 k0 k1 k2 k3 k4 d2 d3 R uW Cv ug ub mP C L HB y0 y1;obtain⟨c2,c3,a,k,r⟩:=dB Z;obtain⟨hh,D⟩:∃ h,h=jD.heap.size:=⟨_,rfl⟩;have Ms:=O (Z.o.box (T:=9) (cs:=#[.string (aG [105,102]),.string (aG [116,104,101,110]),.string (aG [101,108,115,101])]) (by decide));rw [← D] at Ms
 have Y:=O D.symm;clear D;have Q:=O (show iL ps (Sv (i:Int) (dU ⟨aH xs,its⟩ (aQ ⟨aH xs,its⟩ f) i 0) (dU ⟨aH xs,its⟩ (aQ ⟨aH xs,its⟩ f) i 1) (dU ⟨aH xs,its⟩ (aQ ⟨aH xs,its⟩ f) i 2) 0)=ps from Lr ps);go_wp2_with fail;rw [Y.o];go_loopw [7,8,9,89] (fun _ _ _ I wr=>∃ (v:Nat) (pv':Value),v≤3∧I=.int .i64 v∧Hid (PZ ((hh,9,#[.string (aG [105,102]),.string (aG [116,104,101,110]),.string (aG [101,108,115,101])]) :: xS W.heap.size g i #[.int .u8 19,.string (aG x.1.text),.int .i64 x.1.n,.slice N m kc,.int .i64 x.1.at_] S) B g w wr (.slice (some ⟨b,o,none⟩) n c) iv pv' (iL ps (Sv (i:Int) (dU ⟨aH xs,its⟩ (aQ ⟨aH xs,its⟩ f) i 0) (dU ⟨aH xs,its⟩ (aQ ⟨aH xs,its⟩ f) i 1) (dU ⟨aH xs,its⟩ (aQ ⟨aH xs,its⟩ f) i 2) v)))) (fun _ _ _ I _=>3 - (intOf I).toNat)
 case atStart=>exact⟨0,pv,by omega,rfl,by rw [Q.o];exact Ms⟩
 case round =>
  obtain⟨v,yK,hmm,rfl,t⟩:=hrel;clear c2 c3 a k r;obtain⟨c2,c3,a,k,r⟩:=dB (O t.o.tl);rcases (by omega:v=0∨v=1∨v=2∨v=3) with rfl | rfl | rfl | rfl
  ·have P:=(t.o.kp _ (List.mem_cons_self ..)).1.cell 0;go_wp2_with fail;rw [Q.o] at t
   refine (Cy t [105,102] (i:Int) (by have:=J.o;simp [au] at this;omega)).mono ?_;rintro e w2⟨nC,rfl,d⟩;clear c2 c3 a k r P;obtain⟨c2,c3,a,k,r⟩:=dB (O d.o.tl);go_wp2_with fail;refine (Va (l:=[tz [105,102] (i:Int)]) (U_ d HX.o u.o (List.mem_cons_of_mem _ (Ja _ _ _ _ _)) (List.mem_cons_of_mem _ (Mq _ _ _ _ _)) (j:=0) (by omega) (V.o 0 (by omega)) (by have:=J.o;rw [d_];simp [au,Sv] at this ⊢;omega)) (by simp)).mono ?_;rintro e w3⟨U,rfl,M⟩;clear c2 c3 a k r d;go_wp2_with fail;exact⟨⟨1,U,by omega,by go_num,O (by have h:=M.o;simpa [Sv] using h)⟩,by simp [intOf]⟩
  ·have P:=(t.o.kp _ (List.mem_cons_self ..)).1.cell 1;go_wp2_with fail;refine (I6 t [116,104,101,110] (-1) (by simp [Sv]) (by have:=J.o;simp [au,Sv] at this ⊢;omega)).mono ?_;rintro e w2⟨nC,rfl,d⟩;clear c2 c3 a k r P;obtain⟨c2,c3,a,k,r⟩:=dB (O d.o.tl);go_wp2_with fail;refine (Va (l:=(Sv (i:Int) (dU ⟨aH xs,its⟩ (aQ ⟨aH xs,its⟩ f) i 0) (dU ⟨aH xs,its⟩ (aQ ⟨aH xs,its⟩ f) i 1) (dU ⟨aH xs,its⟩ (aQ ⟨aH xs,its⟩ f) i 2) 1 ++ [lz [116,104,101,110] (-1)])) (U_ d HX.o u.o (List.mem_cons_of_mem _ (Ja _ _ _ _ _)) (List.mem_cons_of_mem _ (Mq _ _ _ _ _)) (j:=1) (by omega) (V.o 1 (by omega)) (by have:=J.o;rw [d_];simp [au,Sv] at this ⊢;omega)) (by simp)).mono ?_;rintro e w3⟨U,rfl,M⟩;clear c2 c3 a k r d;go_wp2_with fail;exact⟨⟨2,U,by omega,by go_num,O (by have h:=M.o;simpa [Sv] using h)⟩,by simp [intOf]⟩
  ·have P:=(t.o.kp _ (List.mem_cons_self ..)).1.cell 2;go_wp2_with fail;refine (I6 t [101,108,115,101] (-1) (by simp [Sv]) (by have:=J.o;simp [au,Sv] at this ⊢;omega)).mono ?_;rintro e w2⟨nC,rfl,d⟩;clear c2 c3 a k r P;obtain⟨c2,c3,a,k,r⟩:=dB (O d.o.tl);go_wp2_with fail;refine (Va (l:=(Sv (i:Int) (dU ⟨aH xs,its⟩ (aQ ⟨aH xs,its⟩ f) i 0) (dU ⟨aH xs,its⟩ (aQ ⟨aH xs,its⟩ f) i 1) (dU ⟨aH xs,its⟩ (aQ ⟨aH xs,its⟩ f) i 2) 2 ++ [lz [101,108,115,101] (-1)])) (U_ d HX.o u.o (List.mem_cons_of_mem _ (Ja _ _ _ _ _)) (List.mem_cons_of_mem _ (Mq _ _ _ _ _)) (j:=2) (by omega) (V.o 2 (by omega)) (by have:=J.o;rw [d_];simp [au,Sv] at this ⊢;omega)) (by simp)).mono ?_;rintro e w3⟨U,rfl,M⟩;clear c2 c3 a k r d;go_wp2_with fail;exact⟨⟨3,U,by omega,by go_num,O (by have h:=M.o;simpa [Sv] using h)⟩,by simp [intOf]⟩
  ·go_wp2_with fail;go_end0
   exact⟨yK,rfl,O (by have h:=t.o.tl.xe;simpa [Sv] using h)⟩
end
end
end Go.Proofs.YtalghggmkojblaaGreatDoor
namespace Mist
abbrev eO:=List (Bs × Nat × Bs)
structure Gs where
 left:Bs
 ns:List Nd
def Gs.nx (s:Gs):Nat:=(s.left.headD 0).toNat
def Gs.tl (s:Gs):Gs:=⟨s.left.tail,s.ns⟩
def Gs.put (s:Gs)(n:Nd):Gs:=⟨s.left,s.ns ++ [n]⟩
def Gs.id (s:Gs):Int:=(s.ns.length:Int)
structure Gr where
 pc:eO
 ix:Int
 st:Gs
structure Gl where
 pc:eO
 ix:List Int
 st:Gs
def xR:List Bs:=[[32],[32,32],[10],[32,35,32,97,59,32,40,10],[32],[32,10,32]]
def dQ (wild:Bool)(s:Gs):Bs:=if wild=true then sg xR (s.nx % 6) else [32]
def aM (wild:Bool)(s:Gs):Gs:=if wild=true then s.tl else s
def pG:List Bs:=[[97],[98],[99,50],[115,111],[105,102,102],[116,114,101,101],[120],[108,101,116,115]]
def dD (b:Nat):Bs:=sg pG (b % 8)
def eO.on (g:Bs):eO→eO
 | []=>[]
 | (h,k,t) :: r=>(g ++ h,k,t) :: r
def gu (t:Bs):Bs × Nat × Bs:=([],4,t)
def pQ (n:Int):eO:=if n < 0 then [([],4,[45]),([],2,Go.Lib.itoa (-n))] else [([],2,Go.Lib.itoa n)]
def mI (wild:Bool)(I:eO)(s:Gs):eO :=
 if wild=true∧s.nx % 4=0 then gu [40] :: gu [40] :: I ++ [(dQ wild s.tl,4,[41]),gu [41]] else gu [40] :: I ++ [gu [41]]
def kI (wild:Bool)(s:Gs):Gs:=if wild=true then (if s.nx % 4=0 then aM wild s.tl else s.tl) else s
def d9 (I:eO)(s:Gs)(n:Nd):Gr:=⟨I,s.id,s.put n⟩
def nA (b:Nat)(s:Gs):Gr :=
 if b < 20 then d9 (pQ ((b * 7:Nat):Int)) s ⟨1,[],((b * 7:Nat):Int),[],0⟩
 else if b < 30 then d9 [([],3,if b % 2=0 then [102,97,108,115,101] else [116,114,117,101])] s ⟨2,[],((b % 2:Nat):Int),[],0⟩
 else d9 [([],1,dD b)] s ⟨3,dD b,0,[],0⟩
def Pb:List Bs:=[[43],[45],[42],[47],[37],[61,61],[33,61],[60],[60,61],[62],[62,61],[97,110,100],[111,114]]
def opK (k:Nat):Nat:=if k < 11 then 4 else 3
section
variable (wild:Bool) (E:Gs→Gr)
def eP:Nat→Gl→Gl
 | 0,r=>r
 | m+1,r =>
  if r.ix=[] then
   let a:=E r.st
   eP m ⟨r.pc ++ a.pc,r.ix ++ [a.ix],a.st⟩
  else
   let a:=E (aM wild r.st)
   eP m ⟨r.pc ++ (gu [44] :: eO.on (dQ wild r.st) a.pc),r.ix ++ [a.ix],a.st⟩
def Gx (b:Nat)(s:Gs):Gr :=
 let a:=E s
 let I:=(if b % 2=0 then ([],3,[110,111,116]) else gu [45]) :: eO.on (dQ wild a.st) a.pc
 let s1:=aM wild a.st
 d9 (mI wild I s1) (kI wild s1) ⟨if b % 2=0 then 5 else 4,[],0,[a.ix],0⟩
def Nw (b:Nat)(s:Gs):Gr :=
 let a:=E s
 let c:=E a.st
 let s1:=aM wild c.st
 let s2:=aM wild s1
 let I:=a.pc ++ (dQ wild c.st,opK (b % 13),sg Pb (b % 13)) :: eO.on (dQ wild s1) c.pc
 d9 (mI wild I s2) (kI wild s2) ⟨6+b % 13,[],0,[a.ix,c.ix],0⟩
def Ir (b:Nat)(s:Gs):Gr:=if b < 75 then Gx wild E b s else Nw wild E b s
def ifG (s:Gs):Gr :=
 let a:=E s
 let c:=E a.st
 let d:=E c.st
 let s1:=aM wild d.st
 let s2:=aM wild s1
 let s3:=aM wild s2
 let s4:=aM wild s3
 let s5:=aM wild s4
 let I:=([],3,[105,102]) :: (eO.on (dQ wild d.st) a.pc ++ (dQ wild s1,3,[116,104,101,110]) :: (eO.on (dQ wild s2) c.pc ++ (dQ wild s3,3,[101,108,115,101]) :: eO.on (dQ wild s4) d.pc))
 d9 (mI wild I s5) (kI wild s5) ⟨19,[],0,[a.ix,c.ix,d.ix],0⟩
def OU (x:Bs)(s:Gs):Gr :=
 let a:=E s
 let c:=E a.st
 let s1:=aM wild c.st
 let s2:=aM wild s1
 let s3:=aM wild s2
 let s4:=aM wild s3
 let I:=([],3,[108,101,116]) :: (dQ wild c.st,1,x) :: (dQ wild s1,4,[61]) :: (a.pc ++ (dQ wild s2,3,[105,110]) :: eO.on (dQ wild s3) c.pc)
 d9 (mI wild I s4) (kI wild s4) ⟨20,x,0,[a.ix,c.ix],0⟩
def D5 (x:Bs)(s:Gs):Gr :=
 let r:=eP wild E (s.nx % 4) ⟨[],[],s.tl⟩
 d9 (([],1,x) :: gu [40] :: (r.pc ++ [(dQ wild r.st,4,[41])])) (aM wild r.st) ⟨21,x,0,r.ix,0⟩
def vO (x:Bs)(s:Gs):Gr :=
 let a:=E s
 d9 (gu [40] :: (a.pc ++ [gu [41],(dQ wild a.st,4,[46]),([],1,x)])) (aM wild a.st) ⟨22,x,0,[a.ix],0⟩
def vQ (s:Gs):Gr :=
 let a:=E s
 let c:=E a.st
 d9 (gu [40] :: (a.pc ++ gu [41] :: gu [91] :: (c.pc ++ [(dQ wild c.st,4,[93])]))) (aM wild c.st) ⟨23,[],0,[a.ix,c.ix],0⟩
def vE (s:Gs):Gr :=
 let r:=eP wild E (1+s.nx % 4) ⟨[],[],s.tl⟩
 d9 (gu [91] :: (eO.on (dQ wild r.st) r.pc ++ [gu [93]])) (aM wild r.st) ⟨26,[],0,r.ix,0⟩
def jw:Nat→Gl→Gl
 | 0,r=>r
 | m+1,r =>
  let s0:=if r.ix=[] then r.st else aM wild r.st
  let a:=E s0.tl
  let I:eO:=([],1,dD s0.nx) :: gu [58] :: a.pc
  jw m ⟨r.pc ++ (if r.ix=[] then I else (dQ wild r.st,4,[44]) :: I),r.ix ++ [a.st.id],a.st.put ⟨25,dD s0.nx,0,[a.ix],0⟩⟩
def PG (x:Bs)(b:Nat)(s:Gs):Gr :=
 let r:=jw wild E (1+b % 3) ⟨[],[],s⟩
 d9 (([],1,x) :: gu [123] :: (r.pc ++ [(dQ wild r.st,4,[125])])) (aM wild r.st) ⟨24,x,0,r.ix,0⟩
def jd (b:Nat)(s:Gs):Gr :=
 let x:=dD s.nx
 if b % 7=0 then ifG wild E s.tl else if b % 7=1 then OU wild E x s.tl else if b % 7=2 then D5 wild E x s.tl else if b % 7=3 then vO wild E x s.tl
 else if b % 7=4 then vQ wild E s.tl else if b % 7=5 then vE wild E s.tl else PG wild E x b s.tl
end
def dx (wild:Bool):Nat→Gs→Gr
 | 0,s=>nA (s.nx % 60) s.tl
 | d+1,s=>if s.nx < 60 then nA s.nx s.tl else if s.nx < 150 then Ir wild (dx wild d) s.nx s.tl else jd wild (dx wild d) s.nx s.tl
def dG (wild:Bool):Nat→Gs→Gr
 | 0,s =>
  if s.nx % 4=0 then d9 [([],3,[105,110,116])] s.tl ⟨30,[],0,[],0⟩ else if s.nx % 4=1 then d9 [([],3,[98,111,111,108])] s.tl ⟨31,[],0,[],0⟩
  else d9 [([],1,dD s.nx)] s.tl ⟨32,dD s.nx,0,[],0⟩
 | d+1,s =>
  if s.nx % 4=0 then d9 [([],3,[105,110,116])] s.tl ⟨30,[],0,[],0⟩ else if s.nx % 4=1 then d9 [([],3,[98,111,111,108])] s.tl ⟨31,[],0,[],0⟩
  else if s.nx % 4=2 then d9 [([],1,dD s.nx)] s.tl ⟨32,dD s.nx,0,[],0⟩
  else
   let a:=dG wild d s.tl
   let s1:=aM wild a.st.tl
   d9 (gu [91] :: (a.pc ++ [(dQ wild a.st.tl,4,[59]),([],2,Go.Lib.itoa ((1+a.st.nx % 6:Nat):Int)),gu [93]])) s1 ⟨33,[],((1+a.st.nx % 6:Nat):Int),[a.ix],0⟩
def dL (wild:Bool):Nat→Gl→Gl
 | 0,r=>r
 | m+1,r =>
  let s0:=if r.ix=[] then r.st else aM wild r.st
  let g:=if r.ix=[] then [] else dQ wild r.st
  let a:=dG wild 2 s0.tl
  let s1:=aM wild a.st
  let I:eO:=(g,1,dD s0.nx) :: gu [58] :: eO.on (dQ wild a.st) a.pc
  dL wild m ⟨r.pc ++ (if r.ix=[] then I else gu [44] :: I),r.ix ++ [s1.id],s1.put ⟨34,dD s0.nx,0,[a.ix],0⟩⟩
def eT (n:Int)(s:Gs):Gr:=d9 (pQ n) s ⟨1,[],n,[],0⟩
def mV:List Bs:=[[],[109,117,115,116],[109,97,121],[99,111,117,110,116],[98,111,117,110,100,115],[118,97,108,117,101,115],[119,104,121],[98,108,97,109,101],[108,111,111,107]]
def sw (wild:Bool)(q:Nat)(s:Gs):Gr :=
 let many:=if q=7 then 0 else if q=8 then 1+s.nx % 4 else 1
 let r:=eP wild (dx wild 3) many ⟨[],[],if q=8 then s.tl else s⟩
 d9 (([],3,[97,115,107]) :: (dQ wild r.st,3,sg mV q) :: eO.on [32] r.pc) (aM wild r.st) ⟨46,[],(q:Int),r.ix,0⟩
def rH (wild:Bool)(x:Bs)(s:Gs):Gr :=
 let low:Int:=((s.nx % 30:Nat):Int) - 15
 let a:=eT low s.tl
 let c:=eT (low+((a.st.nx % 12:Nat):Int)) a.st.tl
 let s1:=aM wild c.st
 let s2:=aM wild s1
 d9 (([],3,[99,104,111,111,115,101]) :: ([32],1,x) :: gu [58] :: (eO.on (dQ wild c.st) a.pc ++ (dQ wild s1,4,[46,46]) :: eO.on (dQ wild s2) c.pc)) (aM wild s2) ⟨40,x,0,[a.ix,c.ix],0⟩
def Ig (wild:Bool)(x:Bs)(s:Gs):Gr :=
 let r:=dL wild (1+s.nx % 6) ⟨[],[],s.tl⟩
 d9 (([],3,[116,121,112,101]) :: ([32],1,x) :: gu [61] :: gu [123] :: (r.pc ++ [gu [125]])) r.st ⟨41,x,0,r.ix,0⟩
def rX (s:Gs):Nat:=if 8 < s.nx % 12 then 0 else s.nx % 12
def IL (wild:Bool)(x:Bs)(s:Gs):Gr :=
 let r:=dL wild (s.nx % 5) ⟨[],[],s.tl⟩
 let t:=dG wild 2 r.st
 let n:=rX t.st
 let s1:=if 0 < n then aM wild t.st.tl else t.st.tl
 let u:eO:=if 0 < n then [([32],3,[117,112,116,111]),(dQ wild t.st.tl,2,Go.Lib.itoa (n:Int))] else []
 let b:=dx wild 4 s1
 let s2:=aM wild b.st
 let s3:=aM wild s2
 d9 (([],3,[102,117,110]) :: (dQ wild b.st,1,x) :: gu [40] :: (r.pc ++ gu [41] :: (dQ wild s2,4,[58]) :: (t.pc ++ (u ++ (dQ wild s3,4,[61]) :: b.pc)))) (aM wild s3) ⟨42,x,(n:Int),r.ix ++ [t.ix,b.ix],0⟩
def qG (wild:Bool)(x:Bs)(s:Gs):Gr :=
 let a:=dx wild 4 s
 d9 (([],3,[108,101,116]) :: ([32],1,x) :: gu [61] :: eO.on (dQ wild a.st) a.pc) (aM wild a.st) ⟨43,x,0,[a.ix],0⟩
def qJ (wild:Bool)(x:Bs)(s:Gs):Gr :=
 let a:=dx wild 4 s
 d9 (([],3,[111,98,115,101,114,118,101]) :: ([32],1,x) :: (dQ wild a.st,4,[58]) :: a.pc) (aM wild a.st) ⟨44,x,0,[a.ix],0⟩
def qN (wild:Bool)(x:Bs)(s:Gs):Gr :=
 d9 [([],3,[114,101,116,114,97,99,116]),(dQ wild s,1,x)] (aM wild s) ⟨45,x,0,[],0⟩
def gI (wild:Bool)(s:Gs):Gr :=
 let b:=s.nx
 let x:=dD s.tl.nx
 let s2:=s.tl.tl
 if b % 7=0 then rH wild x s2 else if b % 7=1 then Ig wild x s2 else if b % 7=2 then IL wild x s2 else if b % 7=3 then qG wild x s2
 else if b % 7=4 then qJ wild x s2 else if b % 7=5 then qN wild x s2 else sw wild (1+s2.nx % 8) s2.tl
def iY (s:Gs):Bs:=if s.nx % 7=6∧s.tl.tl.nx % 8=6 then [32] else []
def iF (wild:Bool)(s:Gs):Gr :=
 let a:=gI wild s
 ⟨a.pc ++ [(iY s ++ dQ wild a.st,4,[59])],a.ix,aM wild a.st⟩
def lF (wild:Bool):Nat→Gl→Gl
 | 0,r=>r
 | m+1,r =>
  if r.st.left=[] then r
  else
   let a:=iF wild r.st
   lF wild m ⟨r.pc ++ (if r.ix=[] then a.pc else eO.on [10] a.pc),r.ix ++ [a.ix],a.st⟩
def grown (wild:Bool)(vF:Bs):Gl:=lF wild 12 ⟨[],[],⟨vF,[]⟩⟩
def qh (wild:Bool)(vF:Bs):Bs:=ah (grown wild vF).pc ++ (if (grown wild vF).ix=[] then [] else [10])
def qj (wild:Bool)(vF:Bs):Tr:=⟨(grown wild vF).st.ns,(grown wild vF).ix⟩
def Af (s:Bs):Bool:=decide (s.length≤2000) && decide ((s.filter fun b=>!(b == 32) && !(b == 10)).length≤800)
end Mist
