/-
  A part of the proof.
-/
import Derived.Test.YtalghggmkojblaaGreatDoorS25
set_option linter.all false
set_option maxRecDepth 100000
set_option maxHeartbeats 4000000
set_option linter.all false
namespace Go.Proofs.YtalghggmkojblaaGreatDoor
open Go.RowKit Mist
attribute [local go_sem] ak aN aV aF aj
def fT:List (Nat × Value):=[(40,.string (aG [99,104,111,111,115,101])),(41,.string (aG [116,121,112,101])),(42,.string (aG [102,117,110])),(43,.string (aG [108,101,116])),(44,.string (aG [111,98,115,101,114,118,101])),(45,.string (aG [114,101,116,114,97,99,116])),(46,.string (aG [97,115,107]))]
section
variable {S:Sz} {B g n c f i j q b2 b3 b4 b6 h:Nat} {cs:Array Value} {w W:World} {A Bi:Option Addr} {nv iv pv:Value} {ps l:List Pz} {xs:List NV} {its:List Int} {x y:NV}
theorem SB (w:World):(Instr.mapUpdate 97 (.map (some w.heap.size)) (.int .u8 40) (.string ⟨#[99,104,111,111,115,101]⟩)).run Tryz.prog (w.alloc (.map #[] 0))=.ok () (w.alloc (.map (iG (fT.take 1) 0).toArray 1)):=mR 97 9 Tryz.underlying97 w fT 0 40 _ rfl rfl
theorem SC (w:World):(Instr.mapUpdate 97 (.map (some w.heap.size)) (.int .u8 41) (.string ⟨#[116,121,112,101]⟩)).run Tryz.prog (w.alloc (.map (iG (fT.take 1) 0).toArray 1))=.ok () (w.alloc (.map (iG (fT.take 2) 0).toArray 2)):=mR 97 9 Tryz.underlying97 w fT 1 41 _ rfl rfl
theorem SE (w:World):(Instr.mapUpdate 97 (.map (some w.heap.size)) (.int .u8 42) (.string ⟨#[102,117,110]⟩)).run Tryz.prog (w.alloc (.map (iG (fT.take 2) 0).toArray 2))=.ok () (w.alloc (.map (iG (fT.take 3) 0).toArray 3)):=mR 97 9 Tryz.underlying97 w fT 2 42 _ rfl rfl
theorem SF (w:World):(Instr.mapUpdate 97 (.map (some w.heap.size)) (.int .u8 43) (.string ⟨#[108,101,116]⟩)).run Tryz.prog (w.alloc (.map (iG (fT.take 3) 0).toArray 3))=.ok () (w.alloc (.map (iG (fT.take 4) 0).toArray 4)):=mR 97 9 Tryz.underlying97 w fT 3 43 _ rfl rfl
theorem SG (w:World):(Instr.mapUpdate 97 (.map (some w.heap.size)) (.int .u8 44) (.string ⟨#[111,98,115,101,114,118,101]⟩)).run Tryz.prog (w.alloc (.map (iG (fT.take 4) 0).toArray 4))=.ok () (w.alloc (.map (iG (fT.take 5) 0).toArray 5)):=mR 97 9 Tryz.underlying97 w fT 4 44 _ rfl rfl
theorem SH (w:World):(Instr.mapUpdate 97 (.map (some w.heap.size)) (.int .u8 45) (.string ⟨#[114,101,116,114,97,99,116]⟩)).run Tryz.prog (w.alloc (.map (iG (fT.take 5) 0).toArray 5))=.ok () (w.alloc (.map (iG (fT.take 6) 0).toArray 6)):=mR 97 9 Tryz.underlying97 w fT 5 45 _ rfl rfl
theorem SK (w:World):(Instr.mapUpdate 97 (.map (some w.heap.size)) (.int .u8 46) (.string ⟨#[97,115,107]⟩)).run Tryz.prog (w.alloc (.map (iG (fT.take 6) 0).toArray 6))=.ok () (w.alloc (.map (iG (fT.take 7) 0).toArray 7)):=mR 97 9 Tryz.underlying97 w fT 6 46 _ rfl rfl
theorem Gg (w:World)(K:Nat)(t:Bs)(h:rF K fT=some (.string (aG t))):(Instr.lookup 97 (.map (some w.heap.size)) (.int .u8 K) false).run Tryz.prog (w.alloc (.map (iG (fT.take 7) 0).toArray 7))=.ok (.string (aG t)) (w.alloc (.map (iG (fT.take 7) 0).toArray 7)):=by
 have a:=Gu 97 9 (.string ByteArray.empty) Tryz.underlying97 (w.alloc (.map (iG (fT.take 7) 0).toArray 7)) (Kn _) fT w.heap.size 7 (heap_alloc_new w _) K;rw [a,h];rfl
theorem xlt (H:Hid (PZ (xS h g i cs S) B g w W nv iv pv ps)):h < W.heap.size∧h+1 < W.heap.size∧h+2 < W.heap.size :=
 ⟨(H.o.kp _ (List.mem_cons_of_mem _ (List.mem_cons_of_mem _ (List.mem_cons_self ..)))).1.lt,(H.o.kp _ (List.mem_cons_of_mem _ (List.mem_cons_self ..))).1.lt,(H.o.kp _ (List.mem_cons_self ..)).1.lt⟩
theorem sJ (H:Hid (PZ (xS h g i cs S) B g w W nv iv pv ps)):W.cell? ⟨h+2,3,none⟩=cs[3]? ∧ W.cell? ⟨h+2,4,none⟩=cs[4]? := ⟨(H.o.kp _ (List.mem_cons_self ..)).1.cell 3,(H.o.kp _ (List.mem_cons_self ..)).1.cell 4⟩
theorem ak0 (h g i:Nat)(S:Sz)(e:kY x=cs):(h+2,56,kY x) ∈ xS h g i cs S:=by rw [e];exact List.mem_cons_self ..
theorem Hf:Lib.fields [109,117,115,116,32,109,97,121,32,99,111,117,110,116,32,98,111,117,110,100,115,32,118,97,108,117,101,115,32,119,104,121,32,98,108,97,109,101,32,108,111,111,107]=lJ.drop 1:=by decide +kernel
theorem Yg (w:World)(a:Env w):Calls Tryz.prog 54 #[] w fun e b=>e=.returned (.slice (some ⟨w.heap.size,0,none⟩) 8 8)∧w.alloc (.cells (ng (lJ.drop 1)) 9)=b:=by
 go_in
 go_wp2_with (go_at_call 90;refine (Tryz.strings_Fields_laid _ _ ?c1 ?c2 a.tab).mono ?_)
 case c1=>decide +kernel
 case c2=>exact FM _ (by decide +kernel)
 ·go_ret;simp only [Hf];exact⟨rfl,rfl⟩
theorem Yf {w w0 a:World}(u:Env w)(h0:Below w.heap.size w w0)(C:w.heap.size≤w0.heap.size){r:Nat}(t:r < 8)(b:Below w0.heap.size w0 a) :
  Calls Tryz.prog 54 #[] a fun e d=>∃ m,e=.returned (.slice (some ⟨m,0,none⟩) 8 8)∧d.cell? ⟨m,r,none⟩=some (.string (aG (lJ.getD (r+1) [])))∧Below w0.heap.size w0 d:=by
 refine (Yg a (u.below (h0.trans (b.mono C)))).mono ?_;rintro e D⟨rfl,rfl⟩
 refine⟨_,rfl,?_,b.alloc b.size _⟩
 have v:=(bY.new a 9 (ng (lJ.drop 1))).cell r;rw [v,Ia _ _ (by show r < 8;exact t)]
 have:∀ k:Fin 8,sg (lJ.drop 1) k.val=lJ.getD (k.val+1) []:=by decide
 rw [this ⟨r,t⟩]
theorem I5 (H:Hid (PZ S B g w W (.slice A n c) iv pv ps))(X:CX w B A Bi n xs its)(K:KX w B g A n c iv xs its f i x)(V:x.1.kind=45)(hf:0 < f)
  (hl:ps.length+(bQ ⟨aH xs,its⟩ (aQ ⟨aH xs,its⟩ f) i).length≤1000000) :
  Calls Tryz.prog 17 #[.pointer (some ⟨g,0,none⟩),.int .i64 i] W (lW S B g w (.slice A n c) iv (iL ps (bQ ⟨aH xs,its⟩ (aQ ⟨aH xs,its⟩ f) i))):=by
 have en:=BF (T:=⟨aH xs,its⟩) (B:=aQ ⟨aH xs,its⟩ f) (i:=i) (by rw [bD its K.hx];exact V)
 try rw [bD its K.hx] at en
 rw [en] at hl ⊢
 clear en;have hi:i < n:=by rw [← X.len];exact (amG.1 K.hx).1
 obtain⟨b,o,hA,R⟩:=(X.at_ H.o).nodes (by have:=X.len;omega);have HB:=O R.lt;obtain⟨I,kc,k,Z,Y⟩:=X.kids H.o K.hx;obtain⟨m,N⟩:∃ m,m=x.1.kids.length:=⟨_,rfl⟩;subst hA;have y0:(0:Int)≤(i:Int):=by omega
 have y1:(i:Int) < (n:Int):=by omega
 have hg:=H.o.blk.lt;have EB:=O (show kY x=#[.int .u8 45,.string (aG x.1.text),.int .i64 x.1.n,.slice I m kc,.int .i64 x.1.at_] from by unfold kY;rw [V,k,N];rfl);have J:=yR i H;have t:=Uv W g i;have r:=O (Ut W g i);have u:=O R;have xA:=O k;have uU:=O (show x.1.kind=45 from V);have Q:=O hl;have HX:=O X;have G:=O K;have HM:=O N;have U:=HB.o;have ME:=O (show x.2=.slice I m kc from by rw [k,N]);have Qp:=O Z;clear H k Y hl X K N R;go_in
 go_upto_region 1 with (fail)
 generalize (W.alloc (.cells #[.pointer (some ⟨g,0,none⟩)] 54)).alloc (.cells #[.int .i64 (i:Nat)] 3)=w0 at J t r ⊢
 have c0:w0.cell? ⟨g,0,none⟩=some (.slice (some ⟨b,o,none⟩) n c):=J.o.blk.cell 0;obtain⟨d2,d3⟩:=kQ J;have mP:=O t;have ug:g < w0.heap.size:=by omega
 have ub:b < w0.heap.size:=by omega
 have uW:W.heap.size < w0.heap.size:=by omega
 have Cv:W.heap.size+1 < w0.heap.size:=by omega
 clear t;have k0:w0.cell? ⟨b,o+i * 5,none⟩=some (.int .u8 45):=by have h:=(u.o.below r.o).c0 i x G.o.hx;rw [uU.o] at h;exact h
 have k1:w0.cell? ⟨b,o+i * 5+1,none⟩=some (.string (aG x.1.text)):=(u.o.below r.o).c1 i x G.o.hx;have k2:w0.cell? ⟨b,o+i * 5+2,none⟩=some (.int .i64 x.1.n):=(u.o.below r.o).c2 i x G.o.hx;have k4:w0.cell? ⟨b,o+i * 5+4,none⟩=some (.int .i64 x.1.at_):=(u.o.below r.o).c4 i x G.o.hx;have k3:w0.cell? ⟨b,o+i * 5+3,none⟩=some (.slice I m kc):=by rw [HM.o,← xA.o];exact (u.o.below r.o).c3 i x G.o.hx
 go_region
 have v:=Uu i #[.int .u8 45,.string (aG x.1.text),.int .i64 x.1.n,.slice I m kc,.int .i64 x.1.at_] mP.o J;rw [mP.o]
 generalize (w0.alloc (.cells #[.int .u8 45,.string (aG x.1.text),.int .i64 x.1.n,.slice I m kc,.int .i64 x.1.at_] 56)).drew=d at v ⊢
 clear U c0 k0 k1 k2 k3 k4 d2 d3 J uW Cv ug ub mP r u HB y0 y1;obtain⟨c2,c3,a,C,D⟩:=dB v;obtain⟨u0,u1,u2⟩:=xlt v;obtain⟨E,F⟩:=sJ v;have hmm:=@run_makeMap Tryz.prog;have i0:=SB d;have i1:=SC d;have i2:=SE d;have i3:=SF d;have i4:=SG d;have i5:=SH d;have i6:=SK d;have hlk:(Instr.lookup 97 (.map (some d.heap.size)) (.int .u8 45) false).run Tryz.prog (d.alloc (.map (iG (fT.take 7) 0).toArray 7))=.ok (.string (aG [114,101,116,114,97,99,116])) (d.alloc (.map (iG (fT.take 7) 0).toArray 7)):=Gg d 45 _ rfl;go_wp2_with fail;refine (Cy (O (v.o.alloc _)) [114,101,116,114,97,99,116] (i:Int) (by have:=Q.o;simp [au] at this;omega)).mono ?_;rintro e w1⟨yK,rfl,L⟩;clear hlk hmm i0 i1 i2 i3 i4 i5 i6 u0 u1 u2 c2 c3 a C D E F v;obtain⟨c2,c3,a,C,D⟩:=dB L;obtain⟨E,F⟩:=sJ L;go_wp2_with fail;refine (I6 L x.1.text (-1) (by simp) (by have:=Q.o;simp [au] at this ⊢;omega)).mono ?_;rintro e w2⟨nC,rfl,M⟩;clear c2 c3 a C D E F L;obtain⟨c2,c3,a,C,D⟩:=dB M;obtain⟨E,F⟩:=sJ M;go_wp2_with fail;refine (uV M [59] (-1) (by simp) (by have:=Q.o;simp [au] at this ⊢;omega)).mono ?_;rintro e w3⟨uY,rfl,P⟩;clear c2 c3 a C D E F M;obtain⟨c2,c3,a,C,D⟩:=dB P;obtain⟨E,F⟩:=sJ P;go_wp2_with fail;go_end0
 exact⟨_,rfl,O (by have h:=P.o.xe;simpa [List.append_assoc,ig,tz,lz] using h)⟩
theorem X_ (H:Hid (PZ S B g w W (.slice A n c) iv pv ps))(X:CX w B A Bi n xs its)(K:KX w B g A n c iv xs its f i x)(hk:x.1.kind=43)(hf:0 < f)(hm1:x.1.kids.length=1)(E:∀ j,j < x.1.kids.length→KE w B g A n c iv xs its f x j)
  (hl:ps.length+(bQ ⟨aH xs,its⟩ (aQ ⟨aH xs,its⟩ f) i).length≤1000000) :
  Calls Tryz.prog 17 #[.pointer (some ⟨g,0,none⟩),.int .i64 i] W (lW S B g w (.slice A n c) iv (iL ps (bQ ⟨aH xs,its⟩ (aQ ⟨aH xs,its⟩ f) i))):=by
 have en:=BA (T:=⟨aH xs,its⟩) (B:=aQ ⟨aH xs,its⟩ f) (i:=i) (by rw [bD its K.hx];exact hk)
 try rw [bD its K.hx] at en
 rw [en] at hl ⊢
 clear en;have hi:i < n:=by rw [← X.len];exact (amG.1 K.hx).1
 obtain⟨b,o,hA,Y⟩:=(X.at_ H.o).nodes (by have:=X.len;omega);have HB:=O Y.lt;obtain⟨L,kc,v,hkl,hki⟩:=X.kids H.o K.hx;obtain⟨m,U⟩:∃ m,m=x.1.kids.length:=⟨_,rfl⟩;subst hA;have y0:(0:Int)≤(i:Int):=by omega
 have y1:(i:Int) < (n:Int):=by omega
 have hg:=H.o.blk.lt;have EB:=O (show kY x=#[.int .u8 43,.string (aG x.1.text),.int .i64 x.1.n,.slice L m kc,.int .i64 x.1.at_] from by unfold kY;rw [hk,v,U];rfl);have M:=yR i H;have D:=Uv W g i;have C:=O (Ut W g i);have G:=O Y;have xA:=O v;have uU:=O (show x.1.kind=43 from hk);have J:=O hl;have HX:=O X;have F:=O K;have HM:=O U;have HE:=O E;have Z:=HB.o;have ME:=O (show x.2=.slice L m kc from by rw [v,U]);have Qp:=O hkl;clear H v hki hl X K U Y E;go_in
 go_upto_region 1 with (fail)
 generalize (W.alloc (.cells #[.pointer (some ⟨g,0,none⟩)] 54)).alloc (.cells #[.int .i64 (i:Nat)] 3)=w0 at M D C ⊢
 have c0:w0.cell? ⟨g,0,none⟩=some (.slice (some ⟨b,o,none⟩) n c):=M.o.blk.cell 0;obtain⟨d2,d3⟩:=kQ M;have mP:=O D;have ug:g < w0.heap.size:=by omega
 have ub:b < w0.heap.size:=by omega
 have uW:W.heap.size < w0.heap.size:=by omega
 have Cv:W.heap.size+1 < w0.heap.size:=by omega
 clear D;have k0:w0.cell? ⟨b,o+i * 5,none⟩=some (.int .u8 43):=by have h:=(G.o.below C.o).c0 i x F.o.hx;rw [uU.o] at h;exact h
 have k1:w0.cell? ⟨b,o+i * 5+1,none⟩=some (.string (aG x.1.text)):=(G.o.below C.o).c1 i x F.o.hx;have k2:w0.cell? ⟨b,o+i * 5+2,none⟩=some (.int .i64 x.1.n):=(G.o.below C.o).c2 i x F.o.hx;have k4:w0.cell? ⟨b,o+i * 5+4,none⟩=some (.int .i64 x.1.at_):=(G.o.below C.o).c4 i x F.o.hx;have k3:w0.cell? ⟨b,o+i * 5+3,none⟩=some (.slice L m kc):=by rw [HM.o,← xA.o];exact (G.o.below C.o).c3 i x F.o.hx
 go_region
 have I:=Uu i #[.int .u8 43,.string (aG x.1.text),.int .i64 x.1.n,.slice L m kc,.int .i64 x.1.at_] mP.o M;rw [mP.o]
 generalize (w0.alloc (.cells #[.int .u8 43,.string (aG x.1.text),.int .i64 x.1.n,.slice L m kc,.int .i64 x.1.at_] 56)).drew=d at I ⊢
 clear Z c0 k0 k1 k2 k3 k4 d2 d3 M uW Cv ug ub mP C G HB y0 y1;obtain⟨c2,c3,a,k,r⟩:=dB I;obtain⟨u0,u1,u2⟩:=xlt I;obtain⟨t,u⟩:=sJ I;have hmm:=@run_makeMap Tryz.prog;have i0:=SB d;have i1:=SC d;have i2:=SE d;have i3:=SF d;have i4:=SG d;have i5:=SH d;have i6:=SK d;have hlk:(Instr.lookup 97 (.map (some d.heap.size)) (.int .u8 43) false).run Tryz.prog (d.alloc (.map (iG (fT.take 7) 0).toArray 7))=.ok (.string (aG [108,101,116])) (d.alloc (.map (iG (fT.take 7) 0).toArray 7)):=Gg d 43 _ rfl;go_wp2_with fail;refine (Cy (O (I.o.alloc _)) [108,101,116] (i:Int) (by have:=J.o;simp [au] at this;omega)).mono ?_;rintro e w1⟨yK,rfl,N⟩;clear hlk hmm i0 i1 i2 i3 i4 i5 i6 u0 u1 u2 c2 c3 a k r t u I;obtain⟨c2,c3,a,k,r⟩:=dB N;obtain⟨t,u⟩:=sJ N;go_wp2_with fail;refine (I6 N x.1.text (-1) (by simp) (by have:=J.o;simp [au] at this ⊢;omega)).mono ?_;rintro e w2⟨nC,rfl,P⟩;clear c2 c3 a k r t u N;obtain⟨c2,c3,a,k,r⟩:=dB P;obtain⟨t,u⟩:=sJ P;go_wp2_with fail;refine (I6 P [61] (-1) (by simp) (by have:=J.o;simp [au] at this ⊢;omega)).mono ?_;rintro e w3⟨uY,rfl,Q⟩;clear c2 c3 a k r t u P;obtain⟨c2,c3,a,k,r⟩:=dB Q;obtain⟨t,u⟩:=sJ Q;go_wp2_with fail;refine (Va (kd1 Q HX.o F.o (j:=0) (by omega) (HE.o 0 (by omega)) (by have:=J.o;rw [d_];simp [au] at this ⊢;omega)) (by simp)).mono ?_;rintro e w4⟨Fh,rfl,R⟩;clear c2 c3 a k r t u Q;obtain⟨c2,c3,a,k,r⟩:=dB R;obtain⟨t,u⟩:=sJ R;go_wp2_with fail;refine (uV R [59] (-1) (by simp) (by have:=J.o;simp [au] at this ⊢;omega)).mono ?_;rintro e w5⟨pv5,rfl,V⟩;clear c2 c3 a k r t u R;obtain⟨c2,c3,a,k,r⟩:=dB V;obtain⟨t,u⟩:=sJ V;go_wp2_with fail;go_end0
 exact⟨_,rfl,O (by have h:=V.o.xe;simpa [List.append_assoc,ig,tz,lz] using h)⟩
theorem I4 (H:Hid (PZ S B g w W (.slice A n c) iv pv ps))(X:CX w B A Bi n xs its)(K:KX w B g A n c iv xs its f i x)(hk:x.1.kind=44)(hf:0 < f)(hm1:x.1.kids.length=1)(E:∀ j,j < x.1.kids.length→KE w B g A n c iv xs its f x j)
  (hl:ps.length+(bQ ⟨aH xs,its⟩ (aQ ⟨aH xs,its⟩ f) i).length≤1000000) :
  Calls Tryz.prog 17 #[.pointer (some ⟨g,0,none⟩),.int .i64 i] W (lW S B g w (.slice A n c) iv (iL ps (bQ ⟨aH xs,its⟩ (aQ ⟨aH xs,its⟩ f) i))):=by
 have en:=BD (T:=⟨aH xs,its⟩) (B:=aQ ⟨aH xs,its⟩ f) (i:=i) (by rw [bD its K.hx];exact hk)
 try rw [bD its K.hx] at en
 rw [en] at hl ⊢
 clear en;have hi:i < n:=by rw [← X.len];exact (amG.1 K.hx).1
 obtain⟨b,o,hA,Y⟩:=(X.at_ H.o).nodes (by have:=X.len;omega);have HB:=O Y.lt;obtain⟨L,kc,v,hkl,hki⟩:=X.kids H.o K.hx;obtain⟨m,U⟩:∃ m,m=x.1.kids.length:=⟨_,rfl⟩;subst hA;have y0:(0:Int)≤(i:Int):=by omega
 have y1:(i:Int) < (n:Int):=by omega
 have hg:=H.o.blk.lt;have EB:=O (show kY x=#[.int .u8 44,.string (aG x.1.text),.int .i64 x.1.n,.slice L m kc,.int .i64 x.1.at_] from by unfold kY;rw [hk,v,U];rfl);have M:=yR i H;have D:=Uv W g i;have C:=O (Ut W g i);have G:=O Y;have xA:=O v;have uU:=O (show x.1.kind=44 from hk);have J:=O hl;have HX:=O X;have F:=O K;have HM:=O U;have HE:=O E;have Z:=HB.o;have ME:=O (show x.2=.slice L m kc from by rw [v,U]);have Qp:=O hkl;clear H v hki hl X K U Y E;go_in
 go_upto_region 1 with (fail)
 generalize (W.alloc (.cells #[.pointer (some ⟨g,0,none⟩)] 54)).alloc (.cells #[.int .i64 (i:Nat)] 3)=w0 at M D C ⊢
 have c0:w0.cell? ⟨g,0,none⟩=some (.slice (some ⟨b,o,none⟩) n c):=M.o.blk.cell 0;obtain⟨d2,d3⟩:=kQ M;have mP:=O D;have ug:g < w0.heap.size:=by omega
 have ub:b < w0.heap.size:=by omega
 have uW:W.heap.size < w0.heap.size:=by omega
 have Cv:W.heap.size+1 < w0.heap.size:=by omega
 clear D;have k0:w0.cell? ⟨b,o+i * 5,none⟩=some (.int .u8 44):=by have h:=(G.o.below C.o).c0 i x F.o.hx;rw [uU.o] at h;exact h
 have k1:w0.cell? ⟨b,o+i * 5+1,none⟩=some (.string (aG x.1.text)):=(G.o.below C.o).c1 i x F.o.hx;have k2:w0.cell? ⟨b,o+i * 5+2,none⟩=some (.int .i64 x.1.n):=(G.o.below C.o).c2 i x F.o.hx;have k4:w0.cell? ⟨b,o+i * 5+4,none⟩=some (.int .i64 x.1.at_):=(G.o.below C.o).c4 i x F.o.hx;have k3:w0.cell? ⟨b,o+i * 5+3,none⟩=some (.slice L m kc):=by rw [HM.o,← xA.o];exact (G.o.below C.o).c3 i x F.o.hx
 go_region
 have I:=Uu i #[.int .u8 44,.string (aG x.1.text),.int .i64 x.1.n,.slice L m kc,.int .i64 x.1.at_] mP.o M;rw [mP.o]
 generalize (w0.alloc (.cells #[.int .u8 44,.string (aG x.1.text),.int .i64 x.1.n,.slice L m kc,.int .i64 x.1.at_] 56)).drew=d at I ⊢
 clear Z c0 k0 k1 k2 k3 k4 d2 d3 M uW Cv ug ub mP C G HB y0 y1;obtain⟨c2,c3,a,k,r⟩:=dB I;obtain⟨u0,u1,u2⟩:=xlt I;obtain⟨t,u⟩:=sJ I;have hmm:=@run_makeMap Tryz.prog;have i0:=SB d;have i1:=SC d;have i2:=SE d;have i3:=SF d;have i4:=SG d;have i5:=SH d;have i6:=SK d;have hlk:(Instr.lookup 97 (.map (some d.heap.size)) (.int .u8 44) false).run Tryz.prog (d.alloc (.map (iG (fT.take 7) 0).toArray 7))=.ok (.string (aG [111,98,115,101,114,118,101])) (d.alloc (.map (iG (fT.take 7) 0).toArray 7)):=Gg d 44 _ rfl;go_wp2_with fail;refine (Cy (O (I.o.alloc _)) [111,98,115,101,114,118,101] (i:Int) (by have:=J.o;simp [au] at this;omega)).mono ?_;rintro e w1⟨yK,rfl,N⟩;clear hlk hmm i0 i1 i2 i3 i4 i5 i6 u0 u1 u2 c2 c3 a k r t u I;obtain⟨c2,c3,a,k,r⟩:=dB N;obtain⟨t,u⟩:=sJ N;go_wp2_with fail;refine (I6 N x.1.text (-1) (by simp) (by have:=J.o;simp [au] at this ⊢;omega)).mono ?_;rintro e w2⟨nC,rfl,P⟩;clear c2 c3 a k r t u N;obtain⟨c2,c3,a,k,r⟩:=dB P;obtain⟨t,u⟩:=sJ P;go_wp2_with fail;refine (uV P [58] (-1) (by simp) (by have:=J.o;simp [au] at this ⊢;omega)).mono ?_;rintro e w3⟨uY,rfl,Q⟩;clear c2 c3 a k r t u P;obtain⟨c2,c3,a,k,r⟩:=dB Q;obtain⟨t,u⟩:=sJ Q;go_wp2_with fail;refine (Va (kd1 Q HX.o F.o (j:=0) (by omega) (HE.o 0 (by omega)) (by have:=J.o;rw [d_];simp [au] at this ⊢;omega)) (by simp)).mono ?_;rintro e w4⟨Fh,rfl,R⟩;clear c2 c3 a k r t u Q;obtain⟨c2,c3,a,k,r⟩:=dB R;obtain⟨t,u⟩:=sJ R;go_wp2_with fail;refine (uV R [59] (-1) (by simp) (by have:=J.o;simp [au] at this ⊢;omega)).mono ?_;rintro e w5⟨pv5,rfl,V⟩;clear c2 c3 a k r t u R;obtain⟨c2,c3,a,k,r⟩:=dB V;obtain⟨t,u⟩:=sJ V;go_wp2_with fail;go_end0
 exact⟨_,rfl,O (by have h:=V.o.xe;simpa [List.append_assoc,ig,tz,lz] using h)⟩
theorem Tz (H:Hid (PZ S B g w W (.slice A n c) iv pv ps))(X:CX w B A Bi n xs its)(K:KX w B g A n c iv xs its f i x)(hk:x.1.kind=41)(hf:0 < f)(hm1:1≤x.1.kids.length)(F:PK w B g A n c iv xs its f x.1.kids.length x)
  (hl:ps.length+(bQ ⟨aH xs,its⟩ (aQ ⟨aH xs,its⟩ f) i).length≤1000000) :
  Calls Tryz.prog 17 #[.pointer (some ⟨g,0,none⟩),.int .i64 i] W (lW S B g w (.slice A n c) iv (iL ps (bQ ⟨aH xs,its⟩ (aQ ⟨aH xs,its⟩ f) i))):=by
 have en:=Bw (T:=⟨aH xs,its⟩) (B:=aQ ⟨aH xs,its⟩ f) (i:=i) (by rw [bD its K.hx];exact hk)
 try rw [bD its K.hx] at en
 rw [en] at hl ⊢
 clear en;have hi:i < n:=by rw [← X.len];exact (amG.1 K.hx).1
 obtain⟨b,o,hA,hN⟩:=(X.at_ H.o).nodes (by have:=X.len;omega);have HB:=O hN.lt;obtain⟨N,kc,D,hkl,hki⟩:=X.kids H.o K.hx;obtain⟨m,Y⟩:∃ m,m=x.1.kids.length:=⟨_,rfl⟩;subst hA;have y0:(0:Int)≤(i:Int):=by omega
 have y1:(i:Int) < (n:Int):=by omega
 have hg:=H.o.blk.lt;have EB:=O (show kY x=#[.int .u8 41,.string (aG x.1.text),.int .i64 x.1.n,.slice N m kc,.int .i64 x.1.at_] from by unfold kY;rw [hk,D,Y];rfl);have P:=yR i H;have I:=Uv W g i;have G:=O (Ut W g i);have J:=O hN;have xA:=O D;have uU:=O (show x.1.kind=41 from hk);have M:=O hl;have HX:=O X;have r:=O K;have E:=O Y;have HF:=O F;have hbw:=HB.o;have ME:=O (show x.2=.slice N m kc from by rw [D,Y]);have Qp:=O hkl;clear H D hki hl X K Y hN F;go_in
 go_upto_region 1 with (fail)
 generalize (W.alloc (.cells #[.pointer (some ⟨g,0,none⟩)] 54)).alloc (.cells #[.int .i64 (i:Nat)] 3)=w0 at P I G ⊢
 have c0:w0.cell? ⟨g,0,none⟩=some (.slice (some ⟨b,o,none⟩) n c):=P.o.blk.cell 0;obtain⟨d2,d3⟩:=kQ P;have mP:=O I;have ug:g < w0.heap.size:=by omega
 have ub:b < w0.heap.size:=by omega
 have uW:W.heap.size < w0.heap.size:=by omega
 have Cv:W.heap.size+1 < w0.heap.size:=by omega
 clear I;have k0:w0.cell? ⟨b,o+i * 5,none⟩=some (.int .u8 41):=by have h:=(J.o.below G.o).c0 i x r.o.hx;rw [uU.o] at h;exact h
 have k1:w0.cell? ⟨b,o+i * 5+1,none⟩=some (.string (aG x.1.text)):=(J.o.below G.o).c1 i x r.o.hx;have k2:w0.cell? ⟨b,o+i * 5+2,none⟩=some (.int .i64 x.1.n):=(J.o.below G.o).c2 i x r.o.hx;have k4:w0.cell? ⟨b,o+i * 5+4,none⟩=some (.int .i64 x.1.at_):=(J.o.below G.o).c4 i x r.o.hx;have k3:w0.cell? ⟨b,o+i * 5+3,none⟩=some (.slice N m kc):=by rw [E.o,← xA.o];exact (J.o.below G.o).c3 i x r.o.hx
 go_region
 have L:=Uu i #[.int .u8 41,.string (aG x.1.text),.int .i64 x.1.n,.slice N m kc,.int .i64 x.1.at_] mP.o P;rw [mP.o]
 generalize (w0.alloc (.cells #[.int .u8 41,.string (aG x.1.text),.int .i64 x.1.n,.slice N m kc,.int .i64 x.1.at_] 56)).drew=d at L ⊢
 clear hbw c0 k0 k1 k2 k3 k4 d2 d3 P uW Cv ug ub mP G J HB y0 y1;obtain⟨c2,c3,a,t,u⟩:=dB L;obtain⟨u0,u1,u2⟩:=xlt L;obtain⟨v,C⟩:=sJ L;have hmm:=@run_makeMap Tryz.prog;have i0:=SB d;have i1:=SC d;have i2:=SE d;have i3:=SF d;have i4:=SG d;have i5:=SH d;have i6:=SK d;have hlk:(Instr.lookup 97 (.map (some d.heap.size)) (.int .u8 41) false).run Tryz.prog (d.alloc (.map (iG (fT.take 7) 0).toArray 7))=.ok (.string (aG [116,121,112,101])) (d.alloc (.map (iG (fT.take 7) 0).toArray 7)):=Gg d 41 _ rfl;go_wp2_with fail;refine (Cy (O (L.o.alloc _)) [116,121,112,101] (i:Int) (by have:=M.o;simp [au] at this;omega)).mono ?_;rintro e w1⟨yK,rfl,Q⟩;clear hlk hmm i0 i1 i2 i3 i4 i5 i6 u0 u1 u2 c2 c3 a t u v C L;obtain⟨c2,c3,a,t,u⟩:=dB Q;obtain⟨v,C⟩:=sJ Q;go_wp2_with fail;refine (I6 Q x.1.text (-1) (by simp) (by have:=M.o;simp [au] at this ⊢;omega)).mono ?_;rintro e w2⟨nC,rfl,R⟩;clear c2 c3 a t u v C Q;obtain⟨c2,c3,a,t,u⟩:=dB R;obtain⟨v,C⟩:=sJ R;go_wp2_with fail;refine (I6 R [61] (-1) (by simp) (by have:=M.o;simp [au] at this ⊢;omega)).mono ?_;rintro e w3⟨uY,rfl,U⟩;clear c2 c3 a t u v C R;obtain⟨c2,c3,a,t,u⟩:=dB U;obtain⟨v,C⟩:=sJ U;go_wp2_with fail
 refine (Nz false U (by simp) 50 #[.pointer (some ⟨W.heap.size,0,none⟩),.pointer (some ⟨W.heap.size+2,0,none⟩)] (dU ⟨aH xs,its⟩ (aQ ⟨aH xs,its⟩ f) i) m (r.o.ne hf 0 (.inr rfl)) (by have:=M.o;rw [E.o];simp [au,ig] at this ⊢;omega) (by rw [E.o];exact Qp.o) (fun j W'=>by kernel_rfl)
   (fun S' j W' pv' qs hs hj hq h=>by
    obtain⟨q,y,e1,e2,e3⟩:=r.o.k j (by rw [← E.o];exact hj);have ek:dU ⟨aH xs,its⟩ (aQ ⟨aH xs,its⟩ f) i j=aQ ⟨aH xs,its⟩ f q:=mh (by rw [bD its r.o.hx];omega) (by rw [bD its r.o.hx];exact e1);rw [ek] at hq ⊢
    exact aeZ h HX.o r.o.hx (hs _ (Ja _ _ _ _ _)) (hs _ (ak0 _ _ _ _ EB.o)) e1 (HF.o j q (by rw [← E.o];exact hj) e1) hq)).mono ?_
 rintro e w4⟨Fh,rfl,V⟩;clear c2 c3 a t u v C U;obtain⟨c2,c3,a,t,u⟩:=dB V;obtain⟨v,C⟩:=sJ V;go_wp2_with fail;refine (uV V [59] (-1) (by simp) (by have:=M.o;rw [E.o];simp [au,ig] at this ⊢;omega)).mono ?_;rintro e w5⟨pv5,rfl,Z⟩;clear c2 c3 a t u v C V;obtain⟨c2,c3,a,t,u⟩:=dB Z;obtain⟨v,C⟩:=sJ Z;go_wp2_with fail;go_end0
 exact⟨_,rfl,O (by have h:=Z.o.xe;rw [E.o] at h;simpa [List.append_assoc,ig,tz,lz] using h)⟩
theorem ng2 {a:Nat}{args:Array Value}{r:List Pz}(b:Calls Tryz.prog a args W (lW S B g w nv iv (iL ps l ++ cZ false r)))(d:l ≠ []):Calls Tryz.prog a args W (lW S B g w nv iv (iL ps (l ++ cZ false r))):=by
 rw [wO ps d];exact b
theorem LQ {z:NV}(H:Hid (PZ S B g w W (.slice A n c) iv pv ps))(X:CX w B A Bi n xs its)(K:KX w B g A n c iv xs its f i x)(hk:x.1.kind=40)(hf:0 < f)(hm1:x.1.kids.length=2)(J:x.1.kids[0]? = some ((q:Nat):Int))(hy:xs[q]? = some y)(L:x.1.kids[1]? = some ((j:Nat):Int))(hz:xs[j]? = some z)(hf2:q+1 < f∧j+1 < f)(hyk:y.1.kind=1∧z.1.kind=1)(hyn:-9999≤y.1.n∧y.1.n≤9999)(hzn:-9999≤z.1.n∧z.1.n≤9999)
  (hl:ps.length+(bQ ⟨aH xs,its⟩ (aQ ⟨aH xs,its⟩ f) i).length≤1000000) :
  Calls Tryz.prog 17 #[.pointer (some ⟨g,0,none⟩),.int .i64 i] W (lW S B g w (.slice A n c) iv (iL ps (bQ ⟨aH xs,its⟩ (aQ ⟨aH xs,its⟩ f) i))):=by
 have en:=Bu (T:=⟨aH xs,its⟩) (B:=aQ ⟨aH xs,its⟩ f) (i:=i) (by rw [bD its K.hx];exact hk)
 try rw [bD its K.hx] at en
 rw [en] at hl ⊢
 clear en
 have ek0:dU ⟨aH xs,its⟩ (aQ ⟨aH xs,its⟩ f) i 0=nG y.1.n (q:Int):=by
  rw [mh (q:=q) (by rw [bD its K.hx];omega) (by rw [bD its K.hx];exact J)];obtain⟨G,rfl⟩:∃ G,f=G+1:=⟨f - 1,by omega⟩
  have:=wM (T:=⟨aH xs,its⟩) (B:=aQ ⟨aH xs,its⟩ G) (i:=q) (by rw [bD its hy];exact hyk.1)
  rw [bD its hy] at this
  exact this
 have ek1:dU ⟨aH xs,its⟩ (aQ ⟨aH xs,its⟩ f) i 1=nG z.1.n (j:Int):=by
  rw [mh (q:=j) (by rw [bD its K.hx];omega) (by rw [bD its K.hx];exact L)];obtain⟨G,rfl⟩:∃ G,f=G+1:=⟨f - 1,by omega⟩
  have:=wM (T:=⟨aH xs,its⟩) (B:=aQ ⟨aH xs,its⟩ G) (i:=j) (by rw [bD its hz];exact hyk.2)
  rw [bD its hz] at this
  exact this
 rw [ek0,ek1] at hl ⊢
 clear ek0 ek1;have L0:1≤(nG y.1.n (q:Int)).length∧(nG y.1.n (q:Int)).length≤2:=by unfold nG;split <;> simp
 have L1:1≤(nG z.1.n (j:Int)).length∧(nG z.1.n (j:Int)).length≤2:=by unfold nG;split <;> simp
 have yh:=O L0;have CJ:=O L1;clear L0 L1;have hi:i < n:=by rw [← X.len];exact (amG.1 K.hx).1
 obtain⟨b,o,hA,hN⟩:=(X.at_ H.o).nodes (by have:=X.len;omega);have HB:=O hN.lt;obtain⟨Ka,kc,D,hkl,hki⟩:=X.kids H.o K.hx;obtain⟨m,hm⟩:∃ m,m=x.1.kids.length:=⟨_,rfl⟩;obtain⟨kb,N,hKa,hkb,hkc⟩:=hki.ex (by omega);subst hKa;clear hkb hkc;subst hA;have y0:(0:Int)≤(i:Int):=by omega
 have y1:(i:Int) < (n:Int):=by omega
 have hg:=H.o.blk.lt;have EB:=O (show kY x=#[.int .u8 40,.string (aG x.1.text),.int .i64 x.1.n,.slice (some ⟨kb,N,none⟩) m kc,.int .i64 x.1.at_] from by unfold kY;rw [hk,D,hm];rfl);have jR:=yR i H;have M:=Uv W g i;have I:=O (Ut W g i);have P:=O hN;have xA:=O D;have uU:=O (show x.1.kind=40 from hk);have F:=O hl;have HX:=O X;have E:=O K;have V:=O hm;have ajw:=O J;have ajx:=O L;have Hhy:=O hy;have Hhz:=O hz;have Y:=O hyn;have Z:=O hzn;have hbw:=HB.o;have ME:=O (show x.2=.slice (some ⟨kb,N,none⟩) m kc from by rw [D,hm]);have Qp:=O hkl;clear H D hki hl X K hm hN J L hy hz hyn hzn;go_in
 go_upto_region 1 with (fail)
 generalize (W.alloc (.cells #[.pointer (some ⟨g,0,none⟩)] 54)).alloc (.cells #[.int .i64 (i:Nat)] 3)=w0 at jR M I ⊢
 have c0:w0.cell? ⟨g,0,none⟩=some (.slice (some ⟨b,o,none⟩) n c):=jR.o.blk.cell 0;obtain⟨d2,d3⟩:=kQ jR;have mP:=O M;have ug:g < w0.heap.size:=by omega
 have ub:b < w0.heap.size:=by omega
 have uW:W.heap.size < w0.heap.size:=by omega
 have Cv:W.heap.size+1 < w0.heap.size:=by omega
 clear M;have k0:w0.cell? ⟨b,o+i * 5,none⟩=some (.int .u8 40):=by have h:=(P.o.below I.o).c0 i x E.o.hx;rw [uU.o] at h;exact h
 have k1:w0.cell? ⟨b,o+i * 5+1,none⟩=some (.string (aG x.1.text)):=(P.o.below I.o).c1 i x E.o.hx;have k2:w0.cell? ⟨b,o+i * 5+2,none⟩=some (.int .i64 x.1.n):=(P.o.below I.o).c2 i x E.o.hx;have k4:w0.cell? ⟨b,o+i * 5+4,none⟩=some (.int .i64 x.1.at_):=(P.o.below I.o).c4 i x E.o.hx;have k3:w0.cell? ⟨b,o+i * 5+3,none⟩=some (.slice (some ⟨kb,N,none⟩) m kc):=by rw [V.o,← xA.o];exact (P.o.below I.o).c3 i x E.o.hx
 go_region
 have Q:=Uu i #[.int .u8 40,.string (aG x.1.text),.int .i64 x.1.n,.slice (some ⟨kb,N,none⟩) m kc,.int .i64 x.1.at_] mP.o jR;rw [mP.o]
 generalize (w0.alloc (.cells #[.int .u8 40,.string (aG x.1.text),.int .i64 x.1.n,.slice (some ⟨kb,N,none⟩) m kc,.int .i64 x.1.at_] 56)).drew=C at Q ⊢
 clear hbw c0 k0 k1 k2 k3 k4 d2 d3 jR uW Cv ug ub mP I P HB y0 y1;obtain⟨c2,c3,a,d,k⟩:=dB Q;obtain⟨u0,u1,u2⟩:=xlt Q;obtain⟨r,t⟩:=sJ Q;have hmm:=@run_makeMap Tryz.prog;have i0:=SB C;have i1:=SC C;have i2:=SE C;have i3:=SF C;have i4:=SG C;have i5:=SH C;have i6:=SK C;have hlk:(Instr.lookup 97 (.map (some C.heap.size)) (.int .u8 40) false).run Tryz.prog (C.alloc (.map (iG (fT.take 7) 0).toArray 7))=.ok (.string (aG [99,104,111,111,115,101])) (C.alloc (.map (iG (fT.take 7) 0).toArray 7)):=Gg C 40 _ rfl;go_wp2_with fail;refine (Cy (O (Q.o.alloc _)) [99,104,111,111,115,101] (i:Int) (by have:=F.o;simp [au] at this;omega)).mono ?_;rintro e w1⟨yK,rfl,H1⟩;clear hlk hmm i0 i1 i2 i3 i4 i5 i6 u0 u1 u2 c2 c3 a d k r t Q;obtain⟨c2,c3,a,d,k⟩:=dB H1;obtain⟨r,t⟩:=sJ H1;go_wp2_with fail;refine (I6 H1 x.1.text (-1) (by simp) (by have:=F.o;simp [au] at this ⊢;omega)).mono ?_;rintro e w2⟨nC,rfl,H2⟩;clear c2 c3 a d k r t H1;obtain⟨c2,c3,a,d,k⟩:=dB H2;obtain⟨r,t⟩:=sJ H2;go_wp2_with fail;refine (uV H2 [58] (-1) (by simp) (by have:=F.o;simp [au] at this ⊢;omega)).mono ?_;rintro e w3⟨uY,rfl,R⟩;clear c2 c3 a d k r t H2;obtain⟨c2,c3,a,d,k⟩:=dB R;obtain⟨r,t⟩:=sJ R;have kq:w3.cell? ⟨kb,N,none⟩=some (.int .i64 ((q:Nat):Int)):=HX.o.kq R.o E.o.hx ME.o ajw.o;have ym:(0:Int) < (m:Int):=by have:=V.o;omega
 have yn:0 < m:=by have:=V.o;omega
 go_upto_region 9 with (fail)
 go_still_tail 5,(by kernel_rfl)
 change wpList _ _ _ _ _ w3.drew
 have u:=O R.o.drew
 generalize w3.drew=wd4 at u ⊢
 clear c2 c3 a d k r t R;obtain⟨c2,c3,a,d,k⟩:=dB u;obtain⟨r,t⟩:=sJ u;clear kq ym yn;go_wp2_with fail;refine (Va (ab1 u HX.o Hhy.o (by have:=Y.o;omega) (by have:=Y.o;omega) (by have:=F.o;have:=yh.o;have:=CJ.o;rw [d_];simp [au] at this ⊢;simp [au] at *;omega)) (by simp)).mono ?_;rintro e w4⟨Fh,rfl,H4⟩;clear c2 c3 a d k r t u;obtain⟨c2,c3,a,d,k⟩:=dB H4;obtain⟨r,t⟩:=sJ H4;go_wp2_with fail;refine (uV H4 [46,46] (-1) (by simp) (by have:=F.o;simp [au] at this ⊢;omega)).mono ?_;rintro e w5⟨pv5,rfl,U⟩;clear c2 c3 a d k r t H4;obtain⟨c2,c3,a,d,k⟩:=dB U;obtain⟨r,t⟩:=sJ U;have kq:w5.cell? ⟨kb,N+1,none⟩=some (.int .i64 ((j:Nat):Int)):=HX.o.kq U.o E.o.hx ME.o ajx.o;have ym:(1:Int) < (m:Int):=by have:=V.o;omega
 have yn:1 < m:=by have:=V.o;omega
 go_upto_region 11 with (fail)
 go_still_tail 5,(by kernel_rfl)
 change wpList _ _ _ _ _ w5.drew
 have v:=O U.o.drew
 generalize w5.drew=wd6 at v ⊢
 clear c2 c3 a d k r t U;obtain⟨c2,c3,a,d,k⟩:=dB v;obtain⟨r,t⟩:=sJ v;clear kq ym yn;go_wp2_with fail;refine (ng2 (XO v HX.o Hhz.o (by have:=Z.o;omega) (by have:=Z.o;omega) (by have:=F.o;have:=yh.o;have:=CJ.o;rw [d_];simp [au] at this ⊢;simp [au] at *;omega)) (by simp)).mono ?_;rintro e w6⟨pv6,rfl,H6⟩;clear c2 c3 a d k r t v;obtain⟨c2,c3,a,d,k⟩:=dB H6;obtain⟨r,t⟩:=sJ H6;go_wp2_with fail;refine (uV H6 [59] (-1) (by simp) (by have:=F.o;simp [au] at this ⊢;omega)).mono ?_;rintro e w7⟨pv7,rfl,H7⟩;clear c2 c3 a d k r t H6;obtain⟨c2,c3,a,d,k⟩:=dB H7;obtain⟨r,t⟩:=sJ H7;go_wp2_with fail;go_end0
 exact⟨_,rfl,O (by have h:=H7.o.xe;simpa [List.append_assoc,ig,tz,lz] using h)⟩
end
