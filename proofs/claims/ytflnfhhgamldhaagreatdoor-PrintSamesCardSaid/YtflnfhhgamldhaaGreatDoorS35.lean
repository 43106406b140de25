/-
  A part of the proof.
-/
import Derived.Test.YtflnfhhgamldhaaGreatDoorS34
set_option linter.all false
set_option maxRecDepth 100000
set_option maxHeartbeats 4000000
namespace Go.Proofs.YtflnfhhgamldhaaGreatDoor
section
open Go.RowKit Mist
attribute [local go_sem] ah aM aV au ak
def QW:List Bs:=[[],[109,117,115,116],[109,97,121],[99,111,117,110,116],[98,111,117,110,100,115],[118,97,108,117,101,115],[119,104,121],[98,108,97,109,101],[108,111,111,107]]
def TB:Array Value:=(QW.map fun x=>Value.string (aH x)).toArray
theorem aev {k:Nat}{x:Bs}(h:QW[k]? = some x):TB[k]? = some (.string (aH x)):=by unfold TB;simp [h]
def qn:Nat→Bs→Nat
 | 0,_=>0
 | k+1,x=>if k ≠ 0∧QW[k]? = some x then k else qn k x
theorem ai5 {k:Nat}{x:Bs}(h0:1≤k)(h:QW[k]? = some x):qn (k+1) x=k:=by rw [qn,if_pos ⟨by omega,h⟩]
theorem JV {k:Nat}{x y:Bs}(h:QW[k]? = some y)(a:¬ x=y):qn (k+1) x=qn k x:=by rw [qn,if_neg];rintro⟨_,e⟩;rw [h] at e;exact a (ak6 e).symm
theorem ai4 (x:Bs):qn 9 x=gZ x:=by
 by_cases h1:x=[109,117,115,116]
 ·subst h1;rfl
 by_cases h2:x=[109,97,121]
 ·subst h2;rfl
 by_cases h3:x=[99,111,117,110,116]
 ·subst h3;rfl
 by_cases h4:x=[98,111,117,110,100,115]
 ·subst h4;rfl
 by_cases h5:x=[118,97,108,117,101,115]
 ·subst h5;rfl
 by_cases h6:x=[119,104,121]
 ·subst h6;rfl
 by_cases h7:x=[98,108,97,109,101]
 ·subst h7;rfl
 by_cases h8:x=[108,111,111,107]
 ·subst h8;rfl
 rw [JV (k:=8) rfl h8,JV (k:=7) rfl h7,JV (k:=6) rfl h6,JV (k:=5) rfl h5,JV (k:=4) rfl h4,JV (k:=3) rfl h3,JV (k:=2) rfl h2,JV (k:=1) rfl h1];unfold gZ;rw [if_neg h1,if_neg h2,if_neg h3,if_neg h4,if_neg h5,if_neg h6,if_neg h7,if_neg h8,qn,if_neg (by simp)];rfl
theorem QG (x:Bs):gZ x≤8:=by unfold gZ;(repeat' split) <;> omega
theorem J4 (w:World):Calls Tryz.prog 146 #[] w fun e a=>e=.returned (.slice (some ⟨w.heap.size,0,none⟩) 9 9)∧a=w.alloc (.cells TB 9):=by
 go_in
 go_wp2_with fail;go_ret;exact⟨rfl,rfl⟩
theorem ag5 (l:List Tok)(hl:l.length≤1000)(n:Nat)(C:∀ m,QC 120 l m .expr)(g:Nat)(tv iv:Value)(w:World)(s:RS)(xs:List NV)(nv:Value)(qs:List Int)(s':RS)(at_:Int)(v:MW l n at_ s=some (qs,s'))(hn:s'.ns.length≤100000)(h:QS g tv l iv w s xs nv) :
  Calls Tryz.prog 114 #[.pointer (some ⟨g,0,none⟩),.int .i64 at_] w fun e w'=>e=.returned (.int .i64 (hd qs))∧∃ xs' gB,QS g tv l iv w' s' xs' gB∧Mw g w xs nv w' xs' gB:=by
 have j:=O h;have B:=O (Mw.refl (g:=g) (w:=w) (xs:=xs) (nv:=nv));have hle:=h.le;have hg0:=h.lt;clear h;obtain⟨j0,hj0,hy0,hy1,hy2⟩:=info_parts kR;have KJ:=O v;clear v;go_in
 go_wp2_with fail;refine (J4 _).mono ?_;rintro e w1⟨rfl,rfl⟩;have K:=O (bf.new w 9 TB);have GQB:g < w.heap.size:=j.o.lt;have RQB:some w.heap.size ≠ nv.ownBlock:=fun e=>by have:=j.o.iU _ e.symm;omega
 have H1:=O (j.o.alloc (.cells TB 9));have M1:=O (B.o.dK (o:=.cells TB 9));clear j B;have d:=O (bf.new (w.alloc (.cells TB 9)) 50 #[.int .u8 46,.string (aH []),.int .i64 (0),.slice none 0 0,.int .i64 at_]);have G:g < (w.alloc (.cells TB 9)).heap.size:=H1.o.lt;have q:some (w.alloc (.cells TB 9)).heap.size ≠ nv.ownBlock:=fun e=>by have:=H1.o.iU _ e.symm;omega
 have nH:w.heap.size≤(w.alloc (.cells TB 9)).heap.size:=M1.o.size;have Kn:w.heap.size ≠ (w.alloc (.cells TB 9)).heap.size:=Nat.ne_of_lt K.o.lt;have WU:=Ne.symm Kn
 replace K:=O (K.o.alloc (.cells #[.int .u8 46,.string (aH []),.int .i64 (0),.slice none 0 0,.int .i64 at_] 50))
 have H2:=O (H1.o.alloc (.cells #[.int .u8 46,.string (aH []),.int .i64 (0),.slice none 0 0,.int .i64 at_] 50));have M2:=O (M1.o.dK (o:=.cells #[.int .u8 46,.string (aH []),.int .i64 (0),.slice none 0 0,.int .i64 at_] 50));clear H1 M1;go_wp2_with fail;obtain⟨S,hnb⟩:∃ S,S=(w.alloc (.cells TB 9)).heap.size:=⟨_,rfl⟩;have agu:w.heap.size+1=S:=by rw [hnb];simp
 rw [← hnb] at d G q nH Kn WU
 rw [agu];clear hnb agu;obtain⟨qb,hqb⟩:∃ qb,qb=w.heap.size:=⟨_,rfl⟩;rw [← hqb] at K GQB RQB Kn WU ⊢
 clear hqb;go_loopw [7] (fun i wr=>∃ k:Nat,1≤k∧k≤9∧i=.int .i64 k∧Hid (bf wr S 50 #[.int .u8 46,.string (aH []),.int .i64 (qn k (s.next l)),.slice none 0 0,.int .i64 at_])∧Hid (bf wr qb 9 TB)∧Hid (QS g tv l iv wr s xs nv)∧Hid (Mw g w xs nv wr xs nv)) (fun i _=>9 - (intOf i).toNat)
 case atStart=>exact⟨1,ak0 _,by omega,rfl,d,K,H2,M2⟩
 case round =>
  clear H2 M2 d K;obtain⟨wo,rfl⟩:∃ wo:World,wo=wr:=⟨_,rfl⟩;obtain⟨k,hk1,hk,rfl,d,K,j,B⟩:=hrel;by_cases hk9:k < 9
  ·have i3:decide ((k:Int) < 9)=true:=ak' (by omega);obtain⟨x,hx⟩:∃ x,QW[k]? = some x:=⟨_,akU (show k < QW.length from hk9)⟩;have HQ:=O (aev hx);have HX:=O hx;clear hx;go_upto_region 5 with (fail)
   have N:=O j.o.drew;have R:=O d.o.drew;have QD:=O K.o.drew;have MD:=O (B.o.aU (Below.drew (Below.refl _ _)));clear d K j B;have q0:=(QD.o.cell k).trans HQ.o;have z0:(0:Int)≤(k:Int):=by omega
   have z1:(k:Int) < 9:=by omega
   rcases Bool.eq_false_or_eq_true (s.next l == x) with e1 | e1
   ·have HE:=O (ai5 hk1 (HX.o.trans (congrArg some (eq_of_beq e1).symm)));go_region_law ((go_simp;go_at_call 111;go_loud (refine (aX g tv l iv _ _ _ _ N.o hl).mono ?_;rintro e w50⟨rfl,y⟩;have X:=O (N.o.below y);have Y:=O (MD.o.aU y);have F:=O (R.o.below y R.o.lt);have Q5:=O (QD.o.below y QD.o.lt);clear y;have q5:=(Q5.o.cell k).trans HQ.o)))
    all_goals
     have n2:=F.o.cell 2;have f2:=F.o.frozen 2;have Q:=O (F.o.upd 2 (.int .i64 (k:Int)) (cs':=#[.int .u8 46,.string (aH []),.int .i64 ((k:Int)),.slice none 0 0,.int .i64 at_]) rfl);have Q6:=O (Q5.o.far (p:=⟨S,2,none⟩) Kn (.int .i64 (k:Int)));have H6:=O (X.o.lI F.o G q 2 (.int .i64 (k:Int)));have M6:=O (Y.o.jV (i:=2) (u:=.int .i64 (k:Int)) nH);clear F Q5 X Y N R QD MD;go_wp2_with fail;exact⟨⟨k+1,by omega,by omega,by go_num,by rw [HE.o];exact Q,Q6,H6,M6⟩,by simp only [intOf];omega⟩
   ·have HE:=O (JV HX.o (by simpa using e1));go_region_law ((go_simp;go_at_call 111;go_loud (refine (aX g tv l iv _ _ _ _ N.o hl).mono ?_;rintro e w50⟨rfl,y⟩;have X:=O (N.o.below y);have Y:=O (MD.o.aU y);have F:=O (R.o.below y R.o.lt);have Q5:=O (QD.o.below y QD.o.lt);clear y;have q5:=(Q5.o.cell k).trans HQ.o)))
    all_goals
     clear N R QD MD;go_wp2_with fail;exact⟨⟨k+1,by omega,by omega,by go_num,by rw [HE.o];exact F,Q5,X,Y⟩,by simp only [intOf];omega⟩
  ·obtain rfl:k=9:=by omega
   have i3:decide (((9:Nat):Int) < 9)=false:=rfl;rw [ai4] at d
   have v:=KJ.o;unfold MW at v
   obtain⟨U,hU⟩:∃ U,U=gZ (s.next l):=⟨_,rfl⟩;have hUt:¬ U=0→s.k < l.length:=fun h=>(dM (l:=l) (s:=s) (fun e=>h (by rw [hU,e];rfl))).2
   have hU8:U≤8:=hU ▸ QG _;rw [← hU] at d v
   clear hU KJ K GQB RQB Kn WU hk1 hk hk9;have a2:=d.o.cell 2;by_cases u0:U=0
   ·subst u0;rw [if_pos rfl] at v
    obtain⟨rfl,rfl⟩:=dX v;clear v;have k0:(((0:Nat):Int) == 0)=true:=rfl;have c4:=j.o.blk.cell 4;have f4:=j.o.blk.frozen 4;have kF:=O j.o.fail;have E:=O (B.o.jU (j.o.mv4 (.bool true)))
    replace d:=O (j.o.adE d.o G)
    clear j B;go_wp2_with fail;clear c4 f4;go_ret;exact⟨rfl,_,_,kF.o,E.o⟩
   ·rw [if_neg u0] at v
    have k0:((U:Int) == 0)=false:=by simp;omega
    have hk3:=hUt u0;clear hUt;have aip:=hk3;have c1:=j.o.blk.cell 1;have f1:=j.o.blk.frozen 1;have kF:=O (j.o.dU aip);have E:=O (B.o.jU j.o.sP)
    replace d:=O (j.o.xR d.o G)
    clear j B;have Z:=d.o.cell 0;have b1:=d.o.cell 1;have b2:=d.o.cell 2;have b3:=d.o.cell 3;have b4:=d.o.cell 4;by_cases u7:U=7
    ·subst u7;rw [if_pos rfl] at v
     obtain⟨rfl,rfl⟩:=bG v;clear v;have k7:(((7:Nat):Int) == 7)=true:=rfl;have hb3:s.dU.ns.length≤100000:=by simp only [RS.put,ak5,ak_] at hn;omega
     go_wp2_with fail;refine (dZ g tv l iv _ _ _ _ 46 _ [] 7 _ [] kF.o (dD.none_ _) (by omega)).mono ?_;rintro e V⟨rfl,rM,h,m⟩;have lG:=O h;have pJ:=O (E.o.gy lG.o m kS);have H:=m.ne d.o.lt q
     replace d:=O (m.blk d.o (Nat.ne_of_gt G) q)
     clear q;have q:=H;clear H;clear h m kF E;clear Z b1 b2 b3 b4 a2 c1 f1;go_wp2_with fail;go_ret;exact⟨rfl,_,_,lG.o,pJ.o⟩
    ·rw [if_neg u7] at v
     have k7:((U:Int) == 7)=false:=by simp;omega
     obtain⟨ql,M,a,J,mm,HP,hs,r1⟩:∃ (ql:List Int) (M:RS) (a:List Int) (J:RS) (mm:Nat),Hid (if U=8 then ∃ r,bH l r (.gQ .expr [hd a]) J=some (ql,M) else [hd a]=ql∧J=M)∧some (M.put ⟨46,[],(U:Int),ql,at_⟩)=some (qs,s')∧bH l mm .expr s.dU=some (a,J):=by
      by_cases u8:U=8
      ·subst u8;rw [if_pos rfl] at v
       obtain⟨ql,M,r0,Jq⟩:=aN v;rcases n with _ | n
       ·exact absurd r0 (by simp [bH])
       rw [bH] at r0
       obtain⟨a,J,r1,r0⟩:=aN r0;exact⟨ql,M,a,J,n,O (by rw [if_pos rfl];exact⟨n,r0⟩),Jq,r1⟩
      ·rw [if_neg u8] at v
       obtain⟨a,J,r1,v⟩:=aN v;exact⟨[hd a],J,a,J,n,O (by rw [if_neg u8];exact⟨rfl,rfl⟩),v,r1⟩
     clear v;obtain⟨rfl,rfl⟩:=bG hs;clear hs;have hb0:M.ns.length≤100000:=by simp only [RS.put,ak5,ak_] at hn;omega
     have hb1:J.ns.length≤100000:=by
      have h9:=HP.o;split at h9
      ·obtain⟨r,h9⟩:=h9;exact Nat.le_trans (bQ _ _ _ _ _ h9).few hb0
      ·rw [h9.2];exact hb0
     have HR1:=O r1;clear r1;go_wp2_with fail;clear c1 f1 a2 Z b1 b2 b3 b4 u0 k0 k7;refine (C mm g tv iv _ _ _ _ _ _ HR1.o hb1 kF.o).mono ?_;rintro e V⟨rfl,zi,rM,h,m⟩;have lG:=O h;have pJ:=O (E.o.trans m);have H:=m.ne d.o.lt q
     replace d:=O (m.blk d.o (Nat.ne_of_gt G) q)
     clear q;have q:=H;clear H;clear h m kF E;have n1:¬ V.heap.size=S:=Nat.ne_of_gt d.o.lt;have n2:¬ S=V.heap.size:=Nat.ne_of_lt d.o.lt;have hz:=d.o.lt;have z3:=d.o.frozen 3;have Z:=d.o.cell 0;have b1:=d.o.cell 1;have b2:=d.o.cell 2;have b3:=d.o.cell 3;have b4:=d.o.cell 4;have vV:=O (lG.o.lI d.o G q 3 (.slice (some ⟨V.heap.size,0,none⟩) 1 1));have Dn:=O (pJ.o.jV (i:=3) (u:=.slice (some ⟨V.heap.size,0,none⟩) 1 1) nH)
     replace d:=O (d.o.upd 3 (.slice (some ⟨V.heap.size,0,none⟩) 1 1) (cs':=#[.int .u8 46,.string (aH []),.int .i64 (U),.slice (some ⟨V.heap.size,0,none⟩) 1 1,.int .i64 at_]) rfl)
     clear lG pJ;have h9:=Dn.o.size;have L:=O (LR.made (ks:=[hd a]) (n:=1) (c:=1) vV.o (k:=V.heap.size) (by simp) (by simpa using h9) (vV.o.D_ [hd a] V.heap.size (by simp)));clear h9
     replace d:=O (d.o.alloc (.cells (intCells [hd a]).toArray 3))
     have HA:=O (vV.o.alloc (.cells (intCells [hd a]).toArray 3));have MA:=O (Dn.o.dK (o:=(.cells (intCells [hd a]).toArray 3)));clear vV Dn;go_wp2_with fail;clear Z b1 b2 b3 b4 z3;go_loopw [] (fun wr=>∃ (f:List Int) (A:Option Addr) (c:Nat) (T:RS) (W:List NV) (gT:Value),f.length≤T.k+1∧some S ≠ gT.ownBlock∧Hid (if U=8 then ∃ r,bH l r (.gQ .expr f) T=some (ql,M) else f=ql∧T=M)∧Hid (bf wr S 50 #[.int .u8 46,.string (aH []),.int .i64 (U),.slice A f.length c,.int .i64 at_])∧Hid (LR w wr W (.slice A f.length c) f)∧Hid (QS g tv l iv wr T W gT)∧Hid (Mw g w xs nv wr W gT)) (fun wr=>WS l g wr)
     case atStart=>exact⟨[hd a],_,_,J,_,_,by simp,q,HP,d,L,HA,MA⟩
     case round =>
      clear HP d L HA MA HR1 q n1 n2 hz;obtain⟨wi,rfl⟩:∃ wi:World,wi=wr:=⟨_,rfl⟩;obtain⟨f,A,c,T,W,gT,hac,q,HC,d,L,j,B⟩:=hrel;have HW:=j;have hle1:=j.o.le;have b2:=d.o.cell 2;have t:=HC.o;clear HC;by_cases u8:U=8
      ·rw [if_pos u8] at t
       have k8:((U:Int) == 8)=true:=by rw [u8];rfl
       obtain⟨r,t⟩:=t;rcases r with _ | r
       ·exact absurd t (by simp [bH])
       rw [bH] at t
       have HC:=O t;have HU8:=O u8;clear t u8;go_wp2_with fail;refine (aX g tv l iv _ _ _ _ j.o hl).mono ?_;rintro e w61⟨rfl,y⟩;have D:=O (j.o.below y);have WO:=O (B.o.aU y)
       replace d:=O (d.o.below y d.o.lt)
       replace L:=O (L.o.below y)
       clear y j B;clear b2;by_cases c9:T.next l=[44]
       ·have t:=HC.o;rw [if_pos c9] at t
        obtain⟨b,t2,r2,t⟩:=aN t;have HR:=O t;have HR2:=O r2;have hb2:t2.ns.length≤100000:=Nat.le_trans (bQ _ _ _ _ _ t).few hb0;have hk2:T.k+1≤t2.k:=(bQ _ _ _ _ _ r2).k;have hk4:=(dM (l:=l) (s:=T) (by rw [c9];simp)).2;have k9:(T.next l == [44])=true:=by rw [c9];rfl
        clear t r2 HC c9;have ais:=hk4;have c1:=D.o.blk.cell 1;have f1:=D.o.blk.frozen 1;have Xe:=O (D.o.dU ais);have P:=O (WO.o.jU D.o.sP)
        replace d:=O (D.o.xR d.o G)
        replace L:=O (L.o.mv D.o D.o.sP)
        clear D WO;have d3:=d.o.cell 3;have dz:=d.o.frozen 3;have hz2:=d.o.lt;go_upto_region 16 with (fail)
        have N:=O Xe.o.drew;have LD:=O (L.o.below (Below.drew (Below.refl _ _)));have R:=O d.o.drew;have MD:=O (P.o.aU (Below.drew (Below.refl _ _)));clear L d Xe P
        go_region_law ((first
         | (guard_target =~ ((if Region.wanted _ _=true then _ else _:Prop));refine step_append_lies _ (by rfl) _ _ _ (by rfl) 0 3 j0 _ 1 8 Tryz.underlying30 hj0 hy0 hy1 hy2 rfl (by omega) _ (f).length (intCells (f)) (by first | rfl|(simp only [ak5,ak_];rfl)) (L5.o.alloc _).row ⟨w50.heap.size,0,none⟩ 1 1 [.int .i64 (hd b)] (by rfl) (by rfl) (cell_one_new _ _ _) (by simp [Value.oneCell']) (by omega) (by simp only [maxLen];omega) (by omega) (ak2 _) _ rfl ?_;intro gg cap w6 I Ca yA Jo;have Q:=O ((L5.o.alloc (.cells #[.int .i64 (hd b)] 3)).blk (F.o.alloc _) Ca);have hms:=Y.o.size;have L6:=O ((L5.o.alloc (.cells #[.int .i64 (hd b)] 3)).grow (X.o.alloc _) I yA (Nat.le_trans hms (by simp)));have H6:=O ((X.o.alloc _).grow (L5.o.alloc (.cells #[.int .i64 (hd b)] 3)) Ca (fun b y=>ak1 (alb hg0 (L5.o.lo b y))));have M6:=O (Y.o.dK.grow (L5.o.alloc (.cells #[.int .i64 (hd b)] 3)) Ca);clear I Ca yA Jo;have e6:=Q.o.cell 3;have f6:=Q.o.frozen 3;have Zw:=Q.o.lt)
         | (go_simp;go_at_call 120;go_loud (refine (C r g tv iv _ _ _ _ _ _ HR2.o hb2 N.o).mono ?_;rintro e w50⟨rfl,ahe,aff,h,m⟩;have X:=O h;have Y:=O (MD.o.trans m);have R5:=m.ne R.o.lt q;have F:=O (m.blk R.o (Nat.ne_of_gt G) q);have L5:=O (LD.o.mw N.o m);clear h m;have e5:=F.o.cell 3;have f5:=F.o.frozen 3;have Zv:=F.o.lt))))
        all_goals
         have d:=O (Q.o.upd 3 (.slice (some ⟨gg,0,none⟩) (f.length+1) cap) (cs':=#[.int .u8 46,.string (aH []),.int .i64 (U),.slice (some ⟨gg,0,none⟩) (f.length+1) cap,.int .i64 at_]) rfl);have H63:=O (H6.o.lI Q.o G R5 3 (.slice (some ⟨gg,0,none⟩) (f.length+1) cap));have M63:=O (M6.o.jV (i:=3) (u:=.slice (some ⟨gg,0,none⟩) (f.length+1) cap) nH);have L:=O (L6.o.vP Q.o 3 (.slice (some ⟨gg,0,none⟩) (f.length+1) cap));clear q;have q:=R5;clear Q H6 M6 L6 e6 f6 e5 f5 F L5 X Y Zv Zw R5;clear c1 f1;go_wp2_with fail;exact⟨⟨f ++ [hd b],some ⟨gg,0,none⟩,cap,t2,_,_,(by rw [ak5,ak_];omega),q,O (by rw [if_pos HU8.o];exact⟨r,HR.o⟩),by rw [ak5];exact d,by rw [ak5];exact L,H63,M63⟩,by rw [iB H63.o,iB HW.o];omega⟩
       ·have t:=HC.o;rw [if_neg c9] at t
        obtain⟨rfl,rfl⟩:=dX t;have k9:(M.next l == [44])=false:=by simpa using c9
        clear t HC c9;have Z:=d.o.cell 0;have b1:=d.o.cell 1;have b2:=d.o.cell 2;have b3:=d.o.cell 3;have b4:=d.o.cell 4;have LK:=O L.o.row;have TD:=L.o.lo;clear L;go_wp2_with fail;refine (dZ g tv l iv _ _ _ _ 46 _ [] (U:Int) _ _ D.o LK.o (by omega)).mono ?_;rintro e w62⟨rfl,akI,h,m⟩;have Xe:=O h;have P:=O (WO.o.gy Xe.o m TD);have H:=m.ne d.o.lt q
        replace d:=O (m.blk d.o (Nat.ne_of_gt G) q)
        clear q;have q:=H;clear H;clear h m D WO;clear Z b1 b2 b3 b4;go_wp2_with fail;go_ret;exact⟨rfl,_,_,Xe.o,P.o⟩
      ·rw [if_neg u8] at t
       have k8:((U:Int) == 8)=false:=by simp;omega
       obtain⟨rfl,rfl⟩:=t;clear b2 u8;have Z:=d.o.cell 0;have b1:=d.o.cell 1;have b2:=d.o.cell 2;have b3:=d.o.cell 3;have b4:=d.o.cell 4;have LK:=O L.o.row;have TD:=L.o.lo;clear L;go_wp2_with fail;refine (dZ g tv l iv _ _ _ _ 46 _ [] (U:Int) _ _ j.o LK.o (by omega)).mono ?_;rintro e w61⟨rfl,akG,h,m⟩;have D:=O h;have WO:=O (B.o.gy D.o m TD);have H:=m.ne d.o.lt q
       replace d:=O (m.blk d.o (Nat.ne_of_gt G) q)
       clear q;have q:=H;clear H;clear h m j B;clear Z b1 b2 b3 b4;go_wp2_with fail;go_ret;exact⟨rfl,_,_,D.o,WO.o⟩
def QI (l:List Tok)(n:Nat):Prop :=
 ∀ (g:Nat) (tv iv:Value) (w:World) (s:RS) (xs:List NV) (nv:Value) (qs:List Int) (s':RS),Fg l n s=some (qs,s')→s'.ns.length≤100000→QS g tv l iv w s xs nv →
  Calls Tryz.prog 68 #[.pointer (some ⟨g,0,none⟩)] w fun e w'=>e=.returned (.int .i64 (hd qs))∧∃ xs' gB,QS g tv l iv w' s' xs' gB∧Mw g w xs nv w' xs' gB
theorem acY (l:List Tok)(j:l.length≤1000)(g:Nat)(tv iv:Value)(w:World)(s:RS)(xs:List NV)(nv:Value)(r:¬ s.kind l=3)(h:QS g tv l iv w s xs nv):Calls Tryz.prog 68 #[.pointer (some ⟨g,0,none⟩)] w fun e t=>e=.returned (.int .i64 0)∧∃ c gB,QS g tv l iv t s.fail c gB∧Mw g w xs nv t c gB:=by
 have d:=O h;have k:=O (Mw.refl (g:=g) (w:=w) (xs:=xs) (nv:=nv));have B:=h.le;have A:=h.lt;clear h;have C:(s.kind l == 3)=false:=by simpa using r
 have x:((s.kind l:Int) == 3)=false:=by simp;omega
 clear r;go_in
 go_wp2_with fail;refine (aX g tv l iv _ _ _ _ d.o j).mono ?_;rintro e w1⟨rfl,a⟩;have f:=O (d.o.below a);have m:=O (k.o.aU a);clear a d k;go_wp2_with fail;refine (dh g tv l iv _ _ _ _ f.o j).mono ?_;rintro e D⟨rfl,a⟩;have i:=O (f.o.below a);have n:=O (m.o.aU a);clear a f m;go_wp2_with fail;refine (iE g tv l iv _ _ _ _ i.o j).mono ?_;rintro e E⟨rfl,a⟩;have b:=O (i.o.below a);have q:=O (n.o.aU a);clear a i n;have c4:=b.o.blk.cell 4;have y:=b.o.blk.frozen 4;have u:=O b.o.fail;have v:=O (q.o.jU (b.o.mv4 (.bool true)));clear b q;go_wp2_with fail;clear c4 y;go_ret;exact⟨rfl,_,_,u.o,v.o⟩
theorem QE (l:List Tok)(k:l.length≤1000)(g:Nat)(tv iv:Value)(w:World)(s:RS)(xs:List NV)(nv:Value)(j:s.kind l=3)(h0:¬ s.next l=[99,104,111,111,115,101])(h1:¬ s.next l=[116,121,112,101])(h2:¬ s.next l=[102,117,110])(h3:¬ s.next l=[108,101,116])(h4:¬ s.next l=[111,98,115,101,114,118,101])(h5:¬ s.next l=[114,101,116,114,97,99,116])(h6:¬ s.next l=[97,115,107])(h:QS g tv l iv w s xs nv):Calls Tryz.prog 68 #[.pointer (some ⟨g,0,none⟩)] w fun e t=>e=.returned (.int .i64 0)∧∃ c gB,QS g tv l iv t s.fail c gB∧Mw g w xs nv t c gB:=by
 have d:=O h;have m:=O (Mw.refl (g:=g) (w:=w) (xs:=xs) (nv:=nv));have B:=h.le;have A:=h.lt;clear h;have J:(s.kind l == 3)=true:=by rw [j];rfl
 have x:((s.kind l:Int) == 3)=true:=by rw [j];rfl
 have C:(s.next l == [99,104,111,111,115,101])=false:=by simpa using h0
 have D:(s.next l == [116,121,112,101])=false:=by simpa using h1
 have E:(s.next l == [102,117,110])=false:=by simpa using h2
 have F:(s.next l == [108,101,116])=false:=by simpa using h3
 have G:(s.next l == [111,98,115,101,114,118,101])=false:=by simpa using h4
 have H:(s.next l == [114,101,116,114,97,99,116])=false:=by simpa using h5
 have I:(s.next l == [97,115,107])=false:=by simpa using h6
 clear j h0 h1 h2 h3 h4 h5 h6;go_in
 go_wp2_with fail;refine (aX g tv l iv _ _ _ _ d.o k).mono ?_;rintro e w1⟨rfl,a⟩;have f:=O (d.o.below a);have n:=O (m.o.aU a);clear a d m;go_wp2_with fail;refine (dh g tv l iv _ _ _ _ f.o k).mono ?_;rintro e K⟨rfl,a⟩;have i:=O (f.o.below a);have q:=O (n.o.aU a);clear a f n;go_wp2_with fail;refine (iE g tv l iv _ _ _ _ i.o k).mono ?_;rintro e L⟨rfl,a⟩;have b:=O (i.o.below a);have r:=O (q.o.aU a);clear a i q;have c4:=b.o.blk.cell 4;have y:=b.o.blk.frozen 4;have u:=O b.o.fail;have v:=O (r.o.jU (b.o.mv4 (.bool true)));clear b r;go_wp2_with fail;clear c4 y;go_ret;exact⟨rfl,_,_,u.o,v.o⟩
theorem aaI (l:List Tok)(f:l.length≤1000)(n:Nat)(C:∀ m,QC 120 l m .expr)(g:Nat)(tv iv:Value)(w:World)(s:RS)(xs:List NV)(nv:Value)(F:List Int)(u:RS)(q:s.kind l=3)(b:s.next l=[97,115,107])(E:MW l n (s.place l) s.dU=some (F,u))(P:u.ns.length≤100000)(h:QS g tv l iv w s xs nv) :
  Calls Tryz.prog 68 #[.pointer (some ⟨g,0,none⟩)] w fun e G=>e=.returned (.int .i64 (hd F))∧∃ d gB,QS g tv l iv G u d gB∧Mw g w xs nv G d gB:=by
 have i:=O h;have x:=O (Mw.refl (g:=g) (w:=w) (xs:=xs) (nv:=nv));have N:=h.le;have M:=h.lt;clear h;have r:=(dM (l:=l) (s:=s) (by rw [b];simp)).2;have Z:(s.kind l == 3)=true:=by rw [q];rfl
 have K:((s.kind l:Int) == 3)=true:=by rw [q];rfl
 have S:(s.next l == [99,104,111,111,115,101])=false:=by rw [b];rfl
 have T:(s.next l == [116,121,112,101])=false:=by rw [b];rfl
 have U:(s.next l == [102,117,110])=false:=by rw [b];rfl
 have V:(s.next l == [108,101,116])=false:=by rw [b];rfl
 have W:(s.next l == [111,98,115,101,114,118,101])=false:=by rw [b];rfl
 have X:(s.next l == [114,101,116,114,97,99,116])=false:=by rw [b];rfl
 have Y:(s.next l == [97,115,107])=true:=by rw [b];rfl
 clear q b;have I:=O E;clear E;go_in
 go_wp2_with fail;refine (aX g tv l iv _ _ _ _ i.o f).mono ?_;rintro e w1⟨rfl,a⟩;have j:=O (i.o.below a);have y:=O (x.o.aU a);clear a i x;go_wp2_with fail;refine (dh g tv l iv _ _ _ _ j.o f).mono ?_;rintro e w2⟨rfl,a⟩;have k:=O (j.o.below a);have A:=O (y.o.aU a);clear a j y;go_wp2_with fail;refine (iE g tv l iv _ _ _ _ k.o f).mono ?_;rintro e w3⟨rfl,a⟩;have c:=O (k.o.below a);have B:=O (A.o.aU a);clear a k A;have t:=r;have c1:=c.o.blk.cell 1;have L:=c.o.blk.frozen 1;have v:=O (c.o.dU t);have D:=O (B.o.jU c.o.sP);clear c B;go_wp2_with fail;clear c1 L;go_wp2_with fail;refine (ag5 l f n C g tv iv _ _ _ _ _ _ _ I.o P v.o).mono ?_;rintro e w5⟨rfl,Q,R,h,m⟩;have H:=O h;have J:=O (D.o.trans m);clear h m v D;go_wp2_with fail;go_ret;exact⟨rfl,_,_,H.o,J.o⟩
theorem afp (l:List Tok)(c:l.length≤1000)(d:∀ t ∈ l,t.text.length≤100000000)(n:Nat):QI l n:=by
 intro g tv iv w s xs nv f i a e h;have Q:=adX l c d n;unfold Fg at a
 by_cases b:s.kind l=3
 ·rw [if_pos b] at a
  by_cases h0:s.next l=[99,104,111,111,115,101]
  ·exact MO l c d n Q g tv iv w s xs nv f i b h0 (by rw [h0] at a;exact a) e h
  by_cases h1:s.next l=[116,121,112,101]
  ·exact VI l c d n Q g tv iv w s xs nv f i b h1 (by rw [h1] at a;exact a) e h
  by_cases h2:s.next l=[102,117,110]
  ·exact aaJ l c d n Q g tv iv w s xs nv f i b h2 (by rw [h2] at a;exact a) e h
  by_cases h3:s.next l=[108,101,116]
  ·exact aaK l c d n Q g tv iv w s xs nv f i b h3 (by rw [h3] at a;exact a) e h
  by_cases h4:s.next l=[111,98,115,101,114,118,101]
  ·exact JR l c d n Q g tv iv w s xs nv f i b h4 (by rw [h4] at a;exact a) e h
  by_cases h5:s.next l=[114,101,116,114,97,99,116]
  ·exact JU l c d n Q g tv iv w s xs nv f i b h5 (by rw [h5] at a;exact a) e h
  by_cases h6:s.next l=[97,115,107]
  ·exact aaI l c n (fun m=>(adX l c d m).expr) g tv iv w s xs nv f i b h6 (by rw [h6] at a;exact a) e h
  rw [show F6 (s.next l)=none by unfold F6;rw [if_neg h0,if_neg h1,if_neg h2,if_neg h3,if_neg h4,if_neg h5,if_neg h6]] at a
  obtain⟨rfl,rfl⟩:=dX a;exact QE l c g tv iv w s xs nv b h0 h1 h2 h3 h4 h5 h6 h
 ·rw [if_neg b] at a
  obtain⟨rfl,rfl⟩:=dX a;exact acY l c g tv iv w s xs nv b h
theorem SB {l:List Tok}{n:Nat}{at_:Int}{s c:RS}{d:List Int}(h:MW l n at_ s=some (d,c)):To l s c:=by
 unfold MW at h
 split at h
 ·obtain⟨rfl,rfl⟩:=dX h;exact To.refl.fail
 ·rename_i h0
  have b:To l s s.dU:=To.refl.dU (x:=s.next l) rfl (fun e=>h0 (by rw [e];rfl));split at h
  ·obtain⟨rfl,rfl⟩:=bG h;exact b.put _
  ·split at h
   ·obtain⟨a,t,r,h⟩:=aN h;obtain⟨rfl,rfl⟩:=bG h;exact (b.trans (bQ _ _ _ _ _ r)).put _
   ·obtain⟨a,t,r,h⟩:=aN h;obtain⟨rfl,rfl⟩:=bG h;exact (b.trans (bQ _ _ _ _ _ r)).put _
theorem Nh {l:List Tok}{s t:RS}{a:List Int}(h:some (rO l s)=some (a,t)):To l s t:=by
 have h1:=SC (l:=l) s;injection h with h
 rw [h] at h1
 exact h1
theorem BI {l:List Tok}{n:Nat}{x:Bs}{at_:Int}{ps:List Int}{s a:RS}{c:List Int}(h:kT l n x at_ ps s=some (c,a)):To l s a:=by
 unfold kT at h
 obtain⟨t,d,r1,h⟩:=aN h;obtain⟨b,e,r2,h⟩:=aN h;obtain⟨rfl,rfl⟩:=bG h;have h1:=((To.refl (s:=s)).take (l:=l) (x:=[41]) (by simp)).take (x:=[58]) (by simp);exact ((((h1.trans (bQ _ _ _ _ _ r1)).trans (aa4 d)).take (x:=[61]) (by simp)).trans (bQ _ _ _ _ _ r2)).put _
theorem QO {l:List Tok}{n:Nat}{at_:Int}{x:Bs}{s c:RS}{d:List Int}:∀ {i:It},fG l n at_ x i s=some (d,c)→To l s c
 | .choose,h=>by
  unfold fG at h;dsimp only at h
  obtain⟨a,t,r,h⟩:=aN h;obtain⟨b,e,r2,h⟩:=aN h;obtain⟨rfl,rfl⟩:=bG h;exact (((((To.refl (s:=s)).take (l:=l) (x:=[58]) (by simp)).trans (Nh r)).take (x:=[46,46]) (by simp)).trans (Nh r2)).put _
 | .record,h=>by
  unfold fG at h;dsimp only at h
  obtain⟨a,t,r,h⟩:=aN h;obtain⟨rfl,rfl⟩:=bG h;exact (((((To.refl (s:=s)).take (l:=l) (x:=[61]) (by simp)).take (x:=[123]) (by simp)).trans (bQ _ _ _ _ _ r)).take (x:=[125]) (by simp)).put _
 | .zY,h=>by
  unfold fG at h;dsimp only at h
  have h1:=(To.refl (s:=s)).take (l:=l) (x:=[40]) (by simp);split at h
  ·exact h1.trans (BI h)
  ·obtain⟨a,t,r,h⟩:=aN h;exact (h1.trans (bQ _ _ _ _ _ r)).trans (BI h)
 | .Az,h=>by
  unfold fG at h;dsimp only at h
  obtain⟨a,t,r,h⟩:=aN h;obtain⟨rfl,rfl⟩:=bG h;exact (((To.refl (s:=s)).take (l:=l) (x:=[61]) (by simp)).trans (bQ _ _ _ _ _ r)).put _
 | .observe,h=>by
  unfold fG at h;dsimp only at h
  obtain⟨a,t,r,h⟩:=aN h;obtain⟨rfl,rfl⟩:=bG h;exact (((To.refl (s:=s)).take (l:=l) (x:=[58]) (by simp)).trans (bQ _ _ _ _ _ r)).put _
 | .mD,h=>by
  unfold fG at h;dsimp only at h
  obtain⟨rfl,rfl⟩:=bG h;exact To.refl.put _
 | .ask,h=>by unfold fG at h;cases h
theorem Ni {l:List Tok}{n:Nat}{s a:RS}{e:List Int}(h:Fg l n s=some (e,a)):To l s a∧(a.bad=true∨s.k < a.k):=by
 unfold Fg at h
 split at h
 ·rename_i c
  have d:=(yX (l:=l) (s:=s) (by rw [c];simp)).2;have b:To l s s.dU:=To.aex d;split at h
  ·exact⟨b.trans (SB h),.inr (SB h).k⟩
  ·have h2:To l s.dU (s.dU.word l 1).2:=To.refl.word (by simp);have h3:=h2.trans (QO h);exact⟨b.trans h3,.inr h3.k⟩
  ·obtain⟨rfl,rfl⟩:=dX h;exact⟨To.refl.fail,.inl rfl⟩
 ·obtain⟨rfl,rfl⟩:=dX h;exact⟨To.refl.fail,.inl rfl⟩
theorem Nn {l:List Tok}{n:Nat}{r:List Int}{c:RS}:∀ (m:Nat) (s:RS) (b:List Int),qI l n m s b=some (r,c)→To l s c
 | 0,_,_,h=>by cases h
 | m+1,s,b,h=>by
  rw [qI] at h
  split at h
  ·obtain⟨a,t,e,h⟩:=aN h;exact ((Ni e).1.take (x:=[59]) (by simp)).trans (Nn m _ _ h)
  ·obtain⟨rfl,rfl⟩:=dX h;exact To.refl
theorem Ip {l:List Tok}{s:RS}{x:Bs}(h:(s.take l x).bad=false):s.bad=false:=by
 unfold RS.take at h
 split at h
 ·exact h
 ·cases h
section
variable {g:Nat} {tv:Value} {l:List Tok} {iv:Value} {w:World} {s:RS} {xs:List NV} {nv:Value}
theorem QS.items (h:QS g tv l iv w s xs nv)(u:Value):QS g tv l u (w.setCell ⟨g,3,none⟩ u) s xs nv :=
 have m:Mv g nv.ownBlock w nv.ownBlock _:=Mv.g_ h.blk 3 u
 ⟨(show bf _ g _ #[tv,.int .i64 (s.k:Int),nv,u,.bool s.bad] from by have:=h.blk.g_ 3 u;simpa using this),ownsRow_setCell_other h.own (bD h.own h.blk (by decide)) _,fun x a=>h.kZ m (h.kids x a),h.toks.below (h.low m),h.ns,h.le⟩
theorem QS.mv3 (h:QS g tv l iv w s xs nv)(v:Value):Mv g nv.ownBlock w nv.ownBlock (w.setCell ⟨g,3,none⟩ v):=Mv.g_ h.blk 3 v
def pOf (l:List Tok)(g:Nat)(w:World):Nat:=2 * WS l g w+(match w.cell? ⟨g,4,none⟩ with
 | some (.bool false)=>1
 | _=>0)
theorem Sv (h:QS g tv l iv w s xs nv)(a:s.bad=true):pOf l g w=2 * (l.length - s.k):=by
 have c1:=h.blk.cell 4;unfold pOf;rw [iB h,c1];simp [a]
theorem Ms (h:QS g tv l iv w s xs nv)(a:s.bad=false):pOf l g w=2 * (l.length - s.k)+1:=by
 have c1:=h.blk.cell 4;unfold pOf;rw [iB h,c1];simp [a]
theorem afh (h:QS g tv l iv w s xs nv):pOf l g w≤2 * (l.length - s.k)+1:=by
 cases a:s.bad
 ·exact Nat.le_of_eq (Ms h a)
 ·rw [Sv h a];omega
end
theorem aaM (l:List Tok)(hl:l.length≤1000)(hT:∀ t ∈ l,t.text.length≤100000000)(n:Nat)(g:Nat)(tv:Value)(w:World)(s:RS)(xs:List NV)(nv:Value)(r:List Int)(J:RS)(m:Nat)(q:qI l n m s []=some (r,J))(hn:J.ns.length≤100000)(h:QS g tv l (.slice none 0 0) w s xs nv) :
  Calls Tryz.prog 35 #[.pointer (some ⟨g,0,none⟩)] w fun e w'=>e=.returned (.tuple #[])∧∃ A c N gB,LR w w' N (.slice A r.length c) r∧QS g tv l (.slice A r.length c) w' J N gB∧Mw g w xs nv w' N gB∧r.length≤1001:=by
 have j:=O h;have K:=O (Mw.refl (g:=g) (w:=w) (xs:=xs) (nv:=nv));have hg0:=h.lt;have HL:=O (LR.nil w w xs);have F:∃ At ct,tv=.slice At l.length ct:=by obtain⟨A,c,e,_⟩:=h.toks;exact⟨A,c,e⟩
 clear h;obtain⟨At,ct,F⟩:=F;have HTV:=O F;clear F;have G:=O q;clear q;obtain⟨j0,hj0,hy0,hy1,hy2⟩:=info_parts kR;go_in
 go_wp2_with fail;go_loopw [2] (fun _ wr=>∃ (d:List Int) (A:Option Addr) (c:Nat) (B:RS) (u:List NV) (T:Value) (X:Nat),d.length≤B.k+1∧(B.bad=false→d.length≤B.k)∧Hid (qI l n X B d=some (r,J))∧Hid (LR w wr u (.slice A d.length c) d)∧Hid (QS g tv l (.slice A d.length c) wr B u T)∧Hid (Mw g w xs nv wr u T)) (fun _ wr=>pOf l g wr)
 case atStart=>exact⟨[],none,0,s,xs,nv,m,by simp,fun _=>by simp,G,HL,j,K⟩
 case round =>
  clear G HL j K;obtain⟨wo,rfl⟩:∃ wo:World,wo=wr:=⟨_,rfl⟩;obtain⟨d,A,c,B,u,T,X,hi1,E,G,L,j,K⟩:=hrel;have HW:=j;have hle1:=j.o.le;rcases X with _ | X
  ·exact absurd G.o (by simp [qI])
  have q:=G.o;rw [qI] at q
  clear G;have c0:=j.o.blk.cell 0;have c1:=j.o.blk.cell 1;have c4:=j.o.blk.cell 4;rw [HTV.o] at c0
  by_cases y:B.bad=false∧B.k < l.length
  ·rw [if_pos y] at q
   obtain⟨a,Y,r1,q⟩:=aN q;have hb1:Y.ns.length≤100000:=Nat.le_trans (((To.refl (s:=Y)).take (l:=l) (x:=[59]) (by simp)).trans (Nn _ _ _ q)).few hn;have q1:decide ((B.k:Int) < (l.length:Int))=true:=ak' (by omega);have q1':decide (B.k < l.length)=true:=ak' y.2;rw [y.1] at c4
   have HB1:=O y.1;have hk1:=y.2;have hi3:=E y.1;have G:=O q;have C:=O (Ni r1);have Dk:=O ((To.refl (s:=Y)).take (l:=l) (x:=[59]) (by simp)).k;have HR1:=O r1;clear q r1 y E;obtain⟨iv,M⟩:∃ iv,iv=Value.slice A d.length c:=⟨_,rfl⟩;rw [← M] at L j HW
   have HIV:=O M;clear M;go_wp2_with fail;go_quiet (fail)
   go_wp2_with fail;refine (afp l hl hT n g tv iv _ _ _ _ _ _ HR1.o hb1 (j.o.below (by repeat (first | exact Below.refl _ _ | refine Below.drew ?_ | refine gJ ?_ _)))).mono ?_;rintro e AX⟨rfl,akL,agQ,h,m⟩;have kF:=O h;have S:=O ((K.o.aU (by repeat (first | exact Below.refl _ _ | refine Below.drew ?_ | refine gJ ?_ _))).trans m);have v:=O ((L.o.below (by repeat (first | exact Below.refl _ _ | refine Below.drew ?_ | refine gJ ?_ _))).mw (j.o.below (by repeat (first | exact Below.refl _ _ | refine Below.drew ?_ | refine gJ ?_ _))) m);clear h m j K L c0 c1 c4;go_wp2_with fail;refine (eT g tv l iv _ _ _ _ [59] (by simp) kF.o hl).mono ?_;rintro e tC⟨rfl,h,m⟩;have lG:=O h;have pJ:=O (S.o.jU m)
   replace v:=O (v.o.mv kF.o m)
   clear h m kF S;rw [HIV.o] at lG v
   have b3:=lG.o.blk.cell 3;have P:=O (v.o.alloc (.cells #[.int .i64 (hd a)] 3));have HA:=O (lG.o.alloc (.cells #[.int .i64 (hd a)] 3));have MA:=O (pJ.o.dK (o:=(.cells #[.int .i64 (hd a)] 3)));have W:=MA.o.size;go_wp2_with (at_builtin;go_loud (refine wpList_append_lies _ rfl (.tmp 29) (.tmp 31) 30 rfl 0 3 j0 (.int .i64 0) 1 8 Tryz.underlying30 hj0 hy0 hy1 hy2 rfl (by decide) _ (d).length (intCells (d)) rfl P.o.row ⟨tC.heap.size,0,none⟩ 1 1 [.int .i64 (hd a)] rfl rfl (cell_one_new _ _ _) (by simp [Value.oneCell']) (by omega) (by simp only [maxLen];omega) (by omega) (ak2 _) _ rfl ?_);intro D Z w13 I i U hlt;have ahC:=O (P.o.grow HA.o I U W);have R:=O (HA.o.grow P.o i (fun b Q=>ak1 (alb hg0 (P.o.lo b Q))));have Dn:=O (MA.o.grow P.o i);have d3:=R.o.blk.cell 3;have g3:=R.o.blk.frozen 3;clear I i U hlt)
   clear P HA MA W v lG pJ;have HN:=O (R.o.items (.slice (some ⟨D,0,none⟩) (d.length+1) Z));have MN:=O (Dn.o.jU (R.o.mv3 (.slice (some ⟨D,0,none⟩) (d.length+1) Z)));have LN:=O (ahC.o.mv R.o (R.o.mv3 (.slice (some ⟨D,0,none⟩) (d.length+1) Z)));go_wp2_with fail
   refine⟨⟨d ++ [hd a],some ⟨D,0,none⟩,Z,Y.take l [59],_,_,X,?_,?_,G,by rw [ak5];exact LN,by rw [ak5];exact HN,MN⟩,?_⟩
   ·rw [ak5,ak_];have h1:=C.o.1.k;have h2:=Dk.o;omega
   ·intro Q;rw [ak5,ak_];have h2:=Dk.o;rcases C.o.2 with h3 | h3
    ·rw [Ip Q] at h3;cases h3
    ·omega
   ·rw [Ms HW.o HB1.o];have h1:=C.o.1.k;have h2:=Dk.o;rcases C.o.2 with h3 | h3
    ·cases Q:(Y.take l [59]).bad
     ·rw [Ip Q] at h3;cases h3
     ·rw [Sv HN.o Q];omega
    ·have h4:=afh HN.o;omega
  ·rw [if_neg y] at q
   obtain⟨rfl,rfl⟩:=dX q;clear q;have H:r.length≤1001:=by omega
   cases f:J.bad
   ·have V:¬ J.k < l.length:=fun h=>y ⟨f,h⟩
    rw [f] at c4
    have q1:decide ((J.k:Int) < (l.length:Int))=false:=ala (by omega);have q1':decide (J.k < l.length)=false:=ala V;clear y f V E;go_wp2_with fail;go_quiet (fail)
    go_wp2_with fail;go_end0
    exact⟨rfl,A,c,u,T,L.o.below (by repeat (first | exact Below.refl _ _ | refine Below.drew ?_ | refine gJ ?_ _)),j.o.below (by repeat (first | exact Below.refl _ _ | refine Below.drew ?_ | refine gJ ?_ _)),K.o.aU (by repeat (first | exact Below.refl _ _ | refine Below.drew ?_ | refine gJ ?_ _)),H⟩
   ·rw [f] at c4
    clear y f E;go_wp2_with fail;go_quiet (fail)
    go_wp2_with fail;go_end0
    exact⟨rfl,A,c,u,T,L.o.below (by repeat (first | exact Below.refl _ _ | refine Below.drew ?_ | refine gJ ?_ _)),j.o.below (by repeat (first | exact Below.refl _ _ | refine Below.drew ?_ | refine gJ ?_ _)),K.o.aU (by repeat (first | exact Below.refl _ _ | refine Below.drew ?_ | refine gJ ?_ _)),H⟩
end
section
open Go.RowKit Mist
theorem u6 {W a:World}{cs:Array Value}{T:TypeId}(b:Below (W.alloc (.cells cs T)).heap.size (W.alloc (.cells cs T)) a):bf a W.heap.size T cs:=(bf.new W T cs).below b (by simp)
attribute [local go_sem] ah aM aV au ak
theorem QX (s:Bs)(w:World)(f:(Mist.read s).2.2 ≠ 0)(j:s.length≤100000000) :
  Calls Tryz.prog 12 #[.string (aH s)] w fun e m=>e=.returned (.tuple #[.agg #[.slice none 0 0,.slice none 0 0],.int .i64 (Mist.read s).2.1,.int .i64 (Mist.read s).2.2])∧Below w.heap.size w m:=by
 obtain⟨E,d⟩:∃ E,E=(Mist.read s).2.2:=⟨_,rfl⟩;rw [← d] at f
 have h:=O d;clear d;have r:((E:Int) == 0)=false:=by simpa using f
 clear f;go_in
 go_wp2_with fail;refine (AU s _ j).mono ?_;rintro e x⟨v,rfl,k,b⟩;rw [← h.o];have a:=O (u6 b);have c:=O ((aG (Below.refl w.heap.size w) (ak0 _) (o:=.cells #[.slice none 0 0,.slice none 0 0] 32)).trans (b.mono (by simp)));clear b k;have t:=a.o.cell 0;have u:=a.o.cell 1;have r0:=a.o.frozen 0;have r1:=a.o.frozen 1;go_wp2_with fail;have i:=(a.o.g_ 0 (.slice none 0 0)).g_ 1 (.slice none 0 0);have n:=i.cell 0;have q:=i.cell 1;refine bodyPost_ret (v:=.tuple #[.agg #[.slice none 0 0,.slice none 0 0],.int .i64 (Mist.read s).2.1,.int .i64 E]) (by simp [results,Tryz.f12,go_sem,n,q]) rfl ⟨by rw [← h.o],?_⟩
 repeat (first|(with_reducible exact c.o)|(with_reducible refine eF ?_ ?_) | omega)
theorem QS.start {w:World}{v:Value}{l:List Tok}(h:mH w v l):QS w.heap.size v l (.slice none 0 0) (w.alloc (.cells #[v,.int .i64 0,.slice none 0 0,.slice none 0 0,.bool false] 78)) ⟨0,false,[]⟩ [] (.slice none 0 0) :=
 ⟨bf.new w 78 _,World.ownsRow_nil _ _ _ _,fun _ a=>(nomatch a),SY h (aG (Below.refl _ _) (ak0 _)) (ak0 _),rfl,ak2 _⟩
theorem QV (s:Bs)(l:List Tok)(n m:Nat)(D:List Int)(u:RS)(w:World)(R:Mist.read s=(l,0,0))(I:l.length≤1000)(Y:∀ t ∈ l,t.text.length≤100000000)(Q:qI l n m ⟨0,false,[]⟩ []=some (D,u))(hn:u.ns.length≤100000)(P:u.bad=true)(Z:s.length≤100000000) :
  Calls Tryz.prog 12 #[.string (aH s)] w fun e w'=>e=.returned (.tuple #[.agg #[.slice none 0 0,.slice none 0 0],.int .i64 (pl l (s.length:Int) u.k),.int .i64 4])∧Below w.heap.size w w':=by
 have N:=O R;clear R;have M:=O Q;clear Q;go_in
 go_wp2_with fail;refine (AU s _ Z).mono ?_;rintro e U⟨v,rfl,F,h⟩;rw [N.o] at F ⊢
 have a:=O (u6 h);have x:=O ((aG (Below.refl w.heap.size w) (ak0 _) (o:=.cells #[.slice none 0 0,.slice none 0 0] 32)).trans (h.mono (by simp)));obtain⟨At,j,rfl⟩:∃ At j,v=.slice At l.length j:=by obtain⟨A,c,e,_⟩:=F;exact⟨A,c,e⟩
 have L:=O F;clear h F;simp only
 have d:=O (a.o.alloc (.cells #[.slice At l.length j,.int .i64 0,.slice none 0 0,.slice none 0 0,.bool false] 78));have S:=O (aG x.o x.o.size (o:=.cells #[.slice At l.length j,.int .i64 0,.slice none 0 0,.slice none 0 0,.bool false] 78));have E:=O (QS.start L.o);have B:=a.o.lt;have hw3:w.heap.size < (U.alloc (.cells #[.slice At l.length j,.int .i64 0,.slice none 0 0,.slice none 0 0,.bool false] 78)).heap.size:=d.o.lt;clear a;go_wp2_with fail;refine (aaM l I Y n U.heap.size (.slice At l.length j) _ _ _ _ D u m M.o hn E.o).mono ?_;rintro e w4⟨rfl,A,c,xs,nv,X,hQ,G,hri⟩;have q:=O (d.o.below (E.o.low G.mv) B);have T:=O (S.o.trans ((E.o.low G.mv).mono (ak1 B)));have V:=O (hQ.toks.toks (ak1 hQ.lt));have c1:=hQ.blk.cell 1;have c3:=hQ.blk.cell 4;rw [P] at c3
 clear X hQ G d S E M N L;obtain⟨k,H⟩:∃ k,k=u.k:=⟨_,rfl⟩;rw [← H] at c1
 have r:=O H;clear H P;have q0:=q.o.cell 0;have q1:=q.o.cell 1;have r0:=q.o.frozen 0;have r1:=q.o.frozen 1;by_cases i:k < l.length
 ·obtain⟨b,o,rfl,y⟩:=V.o.aaY (by omega);have t2:=y.at_ k i;have f:=O (show pl l (s.length:Int) u.k=(tg l k).at_ by rw [← r.o];unfold pl;rw [if_pos i]);clear y;have W:decide ((k:Int) < (l.length:Int))=true:=ak' (by omega);have e1:(0:Int)≤(k:Int):=by omega
  have e2:(k:Int) < (l.length:Int):=by omega
  go_wp2_with fail;go_region
  all_goals
   go_wp2_with fail;have C:=(q.o.g_ 0 (.slice none 0 0)).g_ 1 (.slice none 0 0);have J:=C.cell 0;have K:=C.cell 1;refine bodyPost_ret (v:=.tuple #[.agg #[.slice none 0 0,.slice none 0 0],.int .i64 (tg l k).at_,.int .i64 4]) (by simp [results,Tryz.f12,go_sem,J,K]) rfl ⟨by rw [f.o],?_⟩
   repeat (first|(with_reducible exact T.o)|(with_reducible refine eF ?_ ?_)|(with_reducible refine Below.drew ?_) | omega)
 ·have f:=O (show pl l (s.length:Int) u.k=(s.length:Int) by rw [← r.o];unfold pl;rw [if_neg i]);have W:decide ((k:Int) < (l.length:Int))=false:=ala (by omega);go_wp2_with fail;have C:=(q.o.g_ 0 (.slice none 0 0)).g_ 1 (.slice none 0 0);have J:=C.cell 0;have K:=C.cell 1;refine bodyPost_ret (v:=.tuple #[.agg #[.slice none 0 0,.slice none 0 0],.int .i64 (s.length:Int),.int .i64 4]) (by simp [results,Tryz.f12,go_sem,J,K]) rfl ⟨by rw [f.o],?_⟩
  repeat (first|(with_reducible exact T.o)|(with_reducible refine eF ?_ ?_) | omega)
end
end Go.Proofs.YtflnfhhgamldhaaGreatDoor
namespace Mist
theorem He {n:Nd}:∀ (b:List (Nat × Bool)) (i:Nat),tJ n i b=true→∀ j q,b[j]? = some q→yH n (i+j) q=true
 | [],_,_,j,q,h=>by simp at h
 | a :: r,i,hk,0,q,h=>by
  obtain rfl:a=q:=by simpa using h
  rw [tJ,ak9] at hk
  exact hk.1
 | a :: r,i,hk,j+1,q,h=>by
  rw [tJ,ak9] at hk
  have:=He r (i+1) hk.2 j q (by simpa using h)
  rwa [show i+1+j=i+(j+1) by omega] at this
theorem Ng {T:Tr}{i:Nat}{x:Nd}(c:T.nodes[i]? = some x)(h:wH T.nodes x):qH T i=true:=by
 have e:=mE c;unfold wH okB at h
 simp only [ak9] at h
 obtain⟨⟨⟨⟨⟨⟨h1,h2⟩,h3⟩,h4⟩,h5⟩,h6⟩,h7⟩:=h;unfold qH;rw [e];simp only [ak9]
 refine⟨⟨⟨⟨⟨⟨h1,h2⟩,h3⟩,h4⟩,h5⟩,h6⟩,?_⟩
 rw [ak8];intro j a;rw [List.mem_range] at a
 have b:(x.kids.map (fV T.nodes))[j]? = some (fV T.nodes (x.kids.getD j 0)):=by
  rw [List.getElem?_map,akU a,akY,akU a];rfl
 have:=He _ 0 h7 j _ b
 rw [Nat.zero_add] at this
 unfold yH fV at this
 exact this
theorem acT {T:Tr}(h:∀ a ∈ T.items,pI (fV T.nodes a)=true):∀ c ∈ T.items,fM (nd T c.toNat).kind=true:=h
theorem JL {T:Tr}(b:mX T.nodes)(hF:Fo T.nodes 0 T.nodes.length T.items)(c:∀ a ∈ T.items,pI (fV T.nodes a)=true):Lg T=true :=
 (zX T).2 ⟨⟨hF,acT c⟩,fun _ hi=>Ng (yL hi) (b _ _ (yL hi))⟩
end Mist
namespace Go.Proofs.YtflnfhhgamldhaaGreatDoor
section
open Go.RowKit Mist
theorem Qh {K:Nat}(h:Mist.known K=true):K < 256:=by
 by_cases a:K < 256
 ·exact a
 ·exfalso
  unfold Mist.known ji jf fM at h
  simp at h
  omega
theorem mO {a lo hi:Int}(h:within a lo hi=true):lo≤a∧a≤hi:=by simpa [within] using h
theorem Qv {T:Tr}(u:mX T.nodes)(v:Wf T.nodes)(hS:∀ x ∈ T.nodes,Mist.sized T x=true)(A:T.nodes.length≤1000):Dt T.nodes:=by
 intro x q;obtain⟨i,hi,m⟩:=List.getElem_of_mem q;have h:T.nodes[i]? = some x:=by rw [← m];exact akU hi
 have d:=u i x h;unfold wH okB at d
 simp only [ak9] at d
 obtain⟨⟨⟨⟨⟨⟨h1,h2⟩,h3⟩,h4⟩,h5⟩,h6⟩,h7⟩:=d;have f:=hS x q
 refine⟨Qh (by unfold Mist.known;exact h1),?_,?_,?_,?_⟩
 ·by_cases o:jB x.kind=true
  ·rw [o] at h2
   have h2:isName x.text=true:=(eq_of_beq h2).symm;unfold isName at h2
   have:=(ZO x.text (by rw [eq_of_beq h2];decide)).1
   omega
  ·have h3:x.text.isEmpty=true:=by simpa [o] using h3
   have:x.text=[]:=List.isEmpty_iff.1 h3
   rw [this];simp
 ·by_cases r:x.kind=1
  ·have:=mO (by simpa [gU,r] using h5:within x.n (-9999) 9999=true);unfold qE lD;omega
  by_cases t:x.kind=2
  ·have:=mO (by simpa [gU,t] using h5:within x.n 0 1=true);unfold qE lD;omega
  by_cases e:x.kind=42
  ·have a:0≤x.n:=by simpa [gU,e] using h5
   have b:x.n≤8:=by
    unfold Mist.sized at f
    simp [e] at f
    exact f.2
   unfold qE lD;omega
  by_cases j:x.kind=33
  ·have:=mO (by unfold Mist.sized at f;simpa [j] using f:within x.n 1 6=true);unfold qE lD;omega
  by_cases k:x.kind=46
  ·have:=mO (by simpa [gU,k] using h5:within x.n 1 8=true);unfold qE lD;omega
  ·have:x.n=0:=by simpa [gU,r,t,e,j,k] using h5
   unfold qE lD;omega
 ·have:=mO h6;unfold qE lD;omega
 ·intro c y
  have:=v i x h c y
  unfold qE lD;omega
theorem Wx {T:Tr}(h:¬ 0≤outT T):∀ x ∈ T.nodes,Mist.sized T x=true:=by
 have h2:=Mq T;rw [ala h] at h2
 have h3:T.nodes.all (Mist.sized T)=true:=by simpa using h2.symm
 exact ak8.1 h3
theorem JJ {T:Tr}(h:(gM T).2=0):Mist.large T=false∧¬ 30 < rW T∧¬ 0≤outT T:=by
 unfold gM at h
 split at h
 ·cases h
 ·rename_i h1
  split at h
  ·cases h
  ·rename_i h2
   exact⟨by simpa using fun h=>h1 (.inl h),fun h=>h1 (.inr h),h2⟩
theorem JK {T:Tr}(c:mX T.nodes)(q:Wf T.nodes)(hF:Fo T.nodes 0 T.nodes.length T.items)(o:∀ a ∈ T.items,pI (fV T.nodes a)=true)(m:(gM T).2=0):fJ T=0∧Dt T.nodes:=by
 obtain⟨b,hd,f⟩:=JJ m
 have e:T.nodes.length≤800:=by
  have:¬ 800 < T.nodes.length:=fun h=>by unfold Mist.large at b;rw [ak' h] at b;simp at b
  omega
 have d:=Qv c q (Wx f) (by omega);obtain⟨i,j,k⟩:=(Lh T (fun n r=>(d n r).num) (by omega)).2 (JL c hF o)
 refine⟨?_,d⟩
 unfold fJ;rw [if_neg (by rw [b];decide),if_neg (by rw [i];decide),if_neg (by rw [j,k];simp),if_neg hd,if_neg f]
end
