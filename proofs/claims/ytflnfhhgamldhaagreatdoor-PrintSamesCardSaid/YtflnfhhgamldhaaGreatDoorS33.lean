/-
  A part of the proof.
-/
import Derived.Test.YtflnfhhgamldhaaGreatDoorS32
set_option linter.all false
set_option maxRecDepth 100000
set_option maxHeartbeats 2000000
namespace Go.Proofs.YtflnfhhgamldhaaGreatDoor
open Go.RowKit Mist
attribute [local go_sem] ah aM aV au ak
def agO (v:Value):Nat:=match v with
 | .bool true=>1
 | _=>0
theorem aaN (l:List Tok)(U:l.length≤1000)(n:Nat)(C:∀ m,m < n→QC 120 l m .expr)(g:Nat)(tv iv:Value)(w:World)(s:RS)(xs:List NV)(nv:Value)(qs:List Int)(s':RS)(c0:¬ (s.word l 1).2.next l=[40])(c1:(s.word l 1).2.next l=[123])(D:uX l n s=some (qs,s'))(hn:s'.ns.length≤100000)(h:QS g tv l iv w s xs nv) :
  Calls Tryz.prog 221 #[.pointer (some ⟨g,0,none⟩)] w fun e w'=>e=.returned (.int .i64 (hd qs))∧∃ xs' gB,QS g tv l iv w' s' xs' gB∧Mw g w xs nv w' xs' gB:=by
 have J:=O h;have M0:=O (Mw.refl (g:=g) (w:=w) (xs:=xs) (nv:=nv));have hle:=h.le;have hg0:=h.lt;clear h;unfold uX at D
 obtain⟨j0,hj0,hy0,hy1,hy2⟩:=info_parts kR;rw [if_neg c0,if_pos c1] at D
 obtain⟨ql,t0,r0,D⟩:=aN D;obtain⟨rfl,rfl⟩:=bG D;have hb0:(t0.take l [125]).ns.length≤100000:=by simp only [RS.put,ak5,ak_] at hn;omega
 have hbt:=((To.refl (s:=t0)).take (l:=l) (x:=[125]) (by simp)).few;rcases n with _ | n
 ·exact absurd r0 (by simp [bH])
 rw [bH] at r0
 obtain⟨a1,t1,r1,r0⟩:=aN r0;have K:=O r0;have AY:=O r1;have hk3:=(dM (l:=l) (s:=(s.word l 1).2) (by rw [c1];simp)).2;have e0:((s.word l 1).2.next l == [40])=false:=by simpa using c0
 have e1:((s.word l 1).2.next l == [123])=true:=by rw [c1];rfl
 clear D r0 r1 c0 c1;go_in
 go_wp2_with fail;refine (dh g tv l iv _ _ _ _ J.o U).mono ?_;rintro e w1⟨rfl,F⟩;have H1:=O (J.o.below F);have M1:=O (M0.o.aU F);clear F J M0;go_wp2_with fail;refine (iF g tv l iv _ _ _ _ 1 (by simp) (by simp) H1.o U).mono ?_;rintro e V⟨rfl,h,m⟩;have H2:=O h;have M2:=O (M1.o.jU m);clear h m H1 M1;have a:=O (bf.new V 50 #[.int .u8 3,.string (aH (s.word l 1).1),.int .i64 0,.slice none 0 0,.int .i64 (s.place l)]);have I:g < V.heap.size:=H2.o.lt;have j:some V.heap.size ≠ nv.ownBlock:=fun e=>by have:=H2.o.iU _ e.symm;omega
 have nH:w.heap.size≤V.heap.size:=M2.o.size;have H3:=O (H2.o.alloc (.cells #[.int .u8 3,.string (aH (s.word l 1).1),.int .i64 0,.slice none 0 0,.int .i64 (s.place l)] 50));have M3:=O (M2.o.dK (o:=.cells #[.int .u8 3,.string (aH (s.word l 1).1),.int .i64 0,.slice none 0 0,.int .i64 (s.place l)] 50));clear H2 M2;go_wp2_with fail;refine (aX g tv l iv _ _ _ _ H3.o U).mono ?_;rintro e w4⟨rfl,F⟩;have H4:=O (H3.o.below F);have M4:=O (M3.o.aU F)
 replace a:=O (a.o.below F a.o.lt)
 clear F H3 M3;have n1:¬ V.heap.size=g:=Nat.ne_of_gt I;have n2:¬ g=V.heap.size:=Nat.ne_of_lt I;have z0:=a.o.frozen 0;have b0:=a.o.cell 0;have hge:=M4.o.size;have hk5:=hk3;have c1:=H4.o.blk.cell 1;have f1:=H4.o.blk.frozen 1;have T:=O (H4.o.dU hk5);have M5:=O (M4.o.jU H4.o.sP)
 replace a:=O (H4.o.xR a.o I)
 clear H4 M4;have H6:=O (T.o.lI a.o I j 0 (.int .u8 24));have M6:=O (M5.o.jV (i:=0) (u:=.int .u8 24) nH)
 replace a:=O (a.o.upd 0 (.int .u8 24) (cs':=#[.int .u8 24,.string (aH (s.word l 1).1),.int .i64 0,.slice none 0 0,.int .i64 (s.place l)]) rfl)
 clear T M5;have HL:=O (LR.nil w ((w4.setCell ⟨g,1,none⟩ (.int .i64 (((s.word l 1).2.k:Int)+1))).setCell ⟨V.heap.size,0,none⟩ (.int .u8 24)) xs);go_wp2_with fail;clear b0 z0;clear c1 f1;obtain⟨R,hnb⟩:∃ R,R=V.heap.size:=⟨_,rfl⟩;rw [← hnb] at a I j nH n1 n2 H6 M6 HL ⊢
 clear hnb;go_loopw [4,5] (fun mv _ wr=>∃ (more:Bool) (f:List Int) (A:Option Addr) (c:Nat) (v:RS) (S:List NV) (gT:Value),mv=.bool more∧(more=true→f.length≤v.k)∧some R ≠ gT.ownBlock∧Hid (if more=true then ∃ (m r:Nat) (b:List Int) (t:RS),m≤n∧r≤n∧bH l m .put v=some (b,t)∧bH l r (.gQ .put (f ++ [hd b])) t=some (ql,t0) else f=ql∧v=t0)∧Hid (bf wr R 50 #[.int .u8 24,.string (aH (s.word l 1).1),.int .i64 0,.slice A f.length c,.int .i64 (s.place l)])∧Hid (LR w wr S (.slice A f.length c) f)∧Hid (QS g tv l iv wr v S gT)∧Hid (Mw g w xs nv wr S gT)) (fun mv _ wr=>2 * WS l g wr+agO mv)
 case atStart=>exact⟨true,[],_,_,(s.word l 1).2.dU,xs,nv,rfl,fun _=>ak2 _,j,O (by rw [if_pos rfl];exact⟨n,n,a1,t1,ak0 _,ak0 _,AY.o,K.o⟩),a,HL,H6,M6⟩
 case round =>
  clear K AY H6 M6 HL a j;obtain⟨wo,rfl⟩:∃ wo:World,wo=wr:=⟨_,rfl⟩;obtain⟨more,f,A,c,v,S,gT,rfl,hac,j,HC,a,L,J,M0⟩:=hrel;have HW:=J;have hle1:=J.o.le;have hc:=HC.o;clear HC;cases more
  ·rw [if_neg (by simp)] at hc
   obtain⟨rfl,rfl⟩:=hc;go_wp2_with fail;refine (eT g tv l iv _ _ _ _ [125] (by simp) J.o U).mono ?_;rintro e AX⟨rfl,h,m⟩;have kF:=O h;have M11:=O (M0.o.jU m);have G:=m.ne a.o.lt j
   replace a:=O (m.blk a.o (Nat.ne_of_gt I) j)
   clear j;have j:=G;clear G
   replace L:=O (L.o.mv J.o m)
   clear h m J M0;have b0:=a.o.cell 0;have b1:=a.o.cell 1;have b2:=a.o.cell 2;have b3:=a.o.cell 3;have b4:=a.o.cell 4;have LK:=O L.o.row;have TD:=L.o.lo;clear L;go_wp2_with fail;refine (dZ g tv l iv _ _ _ _ 24 _ _ 0 _ f kF.o LK.o (by omega)).mono ?_;rintro e tC⟨rfl,rM,h,m⟩;have lG:=O h;have pJ:=O (M11.o.gy lG.o m TD);have G:=m.ne a.o.lt j
   replace a:=O (m.blk a.o (Nat.ne_of_gt I) j)
   clear j;have j:=G;clear G;clear h m kF M11;clear b0 b1 b2 b3 b4;go_wp2_with fail;go_ret;exact⟨rfl,_,_,lG.o,pJ.o⟩
  ·have hac:=hac rfl;rw [if_pos rfl] at hc
   obtain⟨m,r,b,t,hm,hrn,hp,K⟩:=hc;have K:=O K;rcases m with _ | m
   ·exact absurd hp (by simp [bH])
   rw [bH] at hp
   obtain⟨d,N,r2,hp⟩:=aN hp;obtain⟨rfl,rfl⟩:=bG hp;have hb2:=(bQ _ _ _ _ _ K.o).few;have hb3:N.ns.length≤100000:=by simp only [RS.put,ak5,ak_] at hb2;omega
   have hk2:v.k≤N.k:=((((To.refl (s:=v)).word (c:=1) (by simp)).take (x:=[58]) (by simp)).trans (bQ _ _ _ _ _ r2)).k;have HR2:=O r2;clear r2 hp;go_wp2_with fail;refine (dh g tv l iv _ _ _ _ J.o U).mono ?_;rintro e w31⟨rfl,F⟩;have X:=O (J.o.below F);have M31:=O (M0.o.aU F)
   replace a:=O (a.o.below F a.o.lt)
   replace L:=O (L.o.below F)
   clear F J M0;go_wp2_with fail;refine (iF g tv l iv _ _ _ _ 1 (by simp) (by simp) X.o U).mono ?_;rintro e y⟨rfl,h,m⟩;have P:=O h;have M32:=O (M31.o.jU m);have G:=m.ne a.o.lt j
   replace a:=O (m.blk a.o (Nat.ne_of_gt I) j)
   clear j;have j:=G;clear G
   replace L:=O (L.o.mv X.o m)
   clear h m X M31;have q:=O (bf.new y 50 #[.int .u8 25,.string (aH (v.word l 1).1),.int .i64 0,.slice none 0 0,.int .i64 (v.place l)]);have W:g < y.heap.size:=P.o.lt;have B:some y.heap.size ≠ gT.ownBlock:=fun e=>by have:=P.o.iU _ e.symm;omega
   have SMB:w.heap.size≤y.heap.size:=M32.o.size;have WT:R ≠ y.heap.size:=Nat.ne_of_lt a.o.lt;have afD:=Ne.symm WT
   replace a:=O (a.o.alloc (.cells #[.int .u8 25,.string (aH (v.word l 1).1),.int .i64 0,.slice none 0 0,.int .i64 (v.place l)] 50))
   replace L:=O (L.o.alloc (.cells #[.int .u8 25,.string (aH (v.word l 1).1),.int .i64 0,.slice none 0 0,.int .i64 (v.place l)] 50))
   have Y:=O (P.o.alloc (.cells #[.int .u8 25,.string (aH (v.word l 1).1),.int .i64 0,.slice none 0 0,.int .i64 (v.place l)] 50));have M33:=O (M32.o.dK (o:=.cells #[.int .u8 25,.string (aH (v.word l 1).1),.int .i64 0,.slice none 0 0,.int .i64 (v.place l)] 50));clear P M32;go_wp2_with fail;refine (eT g tv l iv _ _ _ _ [58] (by simp) Y.o U).mono ?_;rintro e w34⟨rfl,h,m⟩;have Z:=O h;have M34:=O (M33.o.jU m);have G:=m.ne a.o.lt j
   replace a:=O (m.blk a.o (Nat.ne_of_gt I) j)
   clear j;have j:=G;clear G;have Yq:=m.ne q.o.lt B
   replace q:=O (m.blk q.o (Nat.ne_of_gt W) B)
   clear B;have B:=Yq;clear Yq
   replace L:=O (L.o.mv Y.o m)
   clear h m Y M33;go_wp2_with fail;refine (C m (by omega) g tv iv _ _ _ _ _ _ HR2.o hb3 Z.o).mono ?_;rintro e H⟨rfl,akP,akB,h,m⟩;have H35:=O h;have M35:=O (M34.o.trans m);have G:=m.ne a.o.lt j
   replace a:=O (m.blk a.o (Nat.ne_of_gt I) j)
   clear j;have j:=G;clear G;have Yq:=m.ne q.o.lt B
   replace q:=O (m.blk q.o (Nat.ne_of_gt W) B)
   clear B;have B:=Yq;clear Yq
   replace L:=O (L.o.mw Z.o m)
   clear h m Z M34;have p1:¬ H.heap.size=y.heap.size:=Nat.ne_of_gt q.o.lt;have p2:¬ y.heap.size=H.heap.size:=Nat.ne_of_lt q.o.lt;have p3:¬ R=y.heap.size:=WT;have p4:¬ y.heap.size=R:=afD;have p5:¬ R=H.heap.size:=Nat.ne_of_lt a.o.lt;have p6:¬ H.heap.size=R:=Nat.ne_of_gt a.o.lt;have hz:=q.o.lt;have hz2:=a.o.lt;have z3:=q.o.frozen 3;have b0:=q.o.cell 0;have b1:=q.o.cell 1;have b2:=q.o.cell 2;have b3:=q.o.cell 3;have b4:=q.o.cell 4;have d3:=a.o.cell 3;have dz:=a.o.frozen 3;have H36:=O (H35.o.lI q.o W B 3 (.slice (some ⟨H.heap.size,0,none⟩) 1 1));have M36:=O (M35.o.jV (i:=3) (u:=.slice (some ⟨H.heap.size,0,none⟩) 1 1) SMB)
   replace L:=O (L.o.vP q.o 3 (.slice (some ⟨H.heap.size,0,none⟩) 1 1))
   replace a:=O (a.o.far (p:=⟨y.heap.size,3,none⟩) WT (.slice (some ⟨H.heap.size,0,none⟩) 1 1))
   replace q:=O (q.o.upd 3 (.slice (some ⟨H.heap.size,0,none⟩) 1 1) (cs':=#[.int .u8 25,.string (aH (v.word l 1).1),.int .i64 0,.slice (some ⟨H.heap.size,0,none⟩) 1 1,.int .i64 (v.place l)]) rfl)
   clear H35 M35;have KA:=O (H36.o.D_ [hd d] H.heap.size (by simp));have Yr:∀ b,(Value.slice (some ⟨H.heap.size,0,none⟩) ([hd d]:List Int).length ([hd d]:List Int).length).ownBlock=some b→w.heap.size≤b:=lZ (by have h9:=M36.o.size;simpa using h9);have adZ:=L.o.apart (k:=H.heap.size) (n:=([hd d]:List Int).length) (c:=([hd d]:List Int).length) (by simp)
   replace a:=O (a.o.alloc (.cells (intCells [hd d]).toArray 3))
   replace q:=O (q.o.alloc (.cells (intCells [hd d]).toArray 3))
   replace L:=O (L.o.alloc (.cells (intCells [hd d]).toArray 3))
   have H37:=O (H36.o.alloc (.cells (intCells [hd d]).toArray 3));have M37:=O (M36.o.dK (o:=(.cells (intCells [hd d]).toArray 3)));clear H36 M36;go_upto_region 18 with (fail)
   have HD:=O H37.o.drew;have LD:=O (L.o.below (Below.drew (Below.refl _ _)));have ND:=O a.o.drew;have MD:=O (M37.o.aU (Below.drew (Below.refl _ _)));have KD:=O (dD.below KA.o (Below.drew (Below.refl _ _)));clear L a H37 M37 KA q
   go_region_law ((first
    | (guard_target =~ ((if Region.wanted _ _=true then _ else _:Prop));refine step_append_lies _ (by rfl) _ _ _ (by rfl) 0 3 j0 _ 1 8 Tryz.underlying30 hj0 hy0 hy1 hy2 rfl (by omega) _ f.length (intCells f) (by rfl) (L5.o.alloc _).row ⟨w50.heap.size,0,none⟩ 1 1 [.int .i64 (N.ns.length:Int)] (by rfl) (by rfl) (cell_one_new _ _ _) (by simp [Value.oneCell']) (by omega) (by simp only [maxLen];omega) (by omega) (ak2 _) _ rfl ?_;intro gg cap w6 M Ca yA Jo;have N6:=O ((L5.o.alloc (.cells #[.int .i64 (N.ns.length:Int)] 3)).blk (N5.o.alloc _) Ca);have hms:=M5.o.size;have L6:=O ((L5.o.alloc (.cells #[.int .i64 (N.ns.length:Int)] 3)).grow (T.o.alloc _) M yA (Nat.le_trans hms (by simp)));have H6:=O ((T.o.alloc _).grow (L5.o.alloc (.cells #[.int .i64 (N.ns.length:Int)] 3)) Ca (fun b F=>ak1 (alb hg0 (L5.o.lo b F))));have M6:=O (M5.o.dK.grow (L5.o.alloc (.cells #[.int .i64 (N.ns.length:Int)] 3)) Ca);clear M Ca yA Jo;have e6:=N6.o.cell 3;have f6:=N6.o.frozen 3;have Zw:=N6.o.lt)
    | (go_simp;go_at_call 121;go_loud (refine (dZ g tv l iv _ _ _ _ 25 _ _ 0 _ [hd d] HD.o KD.o (by omega)).mono ?_;rintro e w50⟨rfl,aff,h,m⟩;have T:=O h;have M5:=O (MD.o.gy T.o m Yr);have R5:=m.ne ND.o.lt j;have N5:=O (m.blk ND.o (Nat.ne_of_gt I) j);have L5:=O (LD.o.put HD.o T.o m adZ);clear h m;have e5:=N5.o.cell 3;have f5:=N5.o.frozen 3;have Zv:=N5.o.lt))))
   all_goals
    have N7:=O (N6.o.upd 3 (.slice (some ⟨gg,0,none⟩) (f.length+1) cap) (cs':=#[.int .u8 24,.string (aH (s.word l 1).1),.int .i64 0,.slice (some ⟨gg,0,none⟩) (f.length+1) cap,.int .i64 (s.place l)]) rfl);have H7:=O (H6.o.lI N6.o I R5 3 (.slice (some ⟨gg,0,none⟩) (f.length+1) cap));have M7:=O (M6.o.jV (i:=3) (u:=.slice (some ⟨gg,0,none⟩) (f.length+1) cap) nH);have L7:=O (L6.o.vP N6.o 3 (.slice (some ⟨gg,0,none⟩) (f.length+1) cap));clear N6 H6 M6 L6 e6 f6 e5 f5 N5 L5 T M5 Zv Zw;rcases r with _ | r
    ·exact absurd K.o (by simp [bH])
    have D:=K.o;rw [bH] at D
    clear K;obtain⟨E,ht3⟩:∃ E,E=(N.put ⟨25,(v.word l 1).1,0,[hd d],v.place l⟩).2:=⟨_,rfl⟩;have BX:=O (show E.k=N.k by rw [ht3];rfl);rw [← ht3] at D H7
    clear ht3;go_wp2_with fail;refine (QF g tv l iv _ E _ _ H7.o U).mono ?_;rintro e w8⟨rfl,h,m⟩;have H8:=O h;have M8:=O (M7.o.jU m);have R8:=m.ne N7.o.lt R5;have N8:=O (m.blk N7.o (Nat.ne_of_gt I) R5);have L8:=O (L7.o.mv H7.o m);clear h m H7 M7 N7 L7;by_cases Q:E.next l=[44]
    ·rw [if_pos Q] at D
     obtain⟨b4,t4,r4,D⟩:=aN D;have hk4:=(dM (l:=l) (s:=E) (by rw [Q];simp)).2;rw [show DF l E=E.dU from if_pos Q] at H8
     have HIC:=O (show sU l E=true by unfold sU;rw [Q];rfl);have K:=O D;have HR4:=O r4;clear D r4 Q;rw [HIC.o];go_wp2_with fail;exact⟨⟨true,f ++ [(N.ns.length:Int)],some ⟨gg,0,none⟩,cap,E.dU,_,_,rfl,(fun _=>by rw [ak5];show f.length+1≤E.k+1;have:=BX.o;omega),R8,O (by rw [if_pos rfl];exact⟨r,r,b4,t4,by omega,by omega,HR4.o,K.o⟩),by rw [ak5];exact N8,by rw [ak5];exact L8,H8,M8⟩,by rw [iB H8.o,iB HW.o];show 2 * (l.length - (E.k+1))+1 < 2 * _+1;have:=BX.o;omega⟩
    ·rw [if_neg Q] at D
     obtain⟨hq,ht⟩:=dX D;rw [show DF l E=E from if_neg Q] at H8
     have HIC:=O (show sU l E=false by unfold sU;simpa using Q);have HQT:=O (And.intro hq ht);clear D Q hq ht;rw [HIC.o];go_wp2_with fail;exact⟨⟨false,f ++ [(N.ns.length:Int)],some ⟨gg,0,none⟩,cap,E,_,_,rfl,(fun h=>by cases h),R8,O (by rw [if_neg (by simp)];exact⟨HQT.o.1.symm,HQT.o.2.symm⟩),by rw [ak5];exact N8,by rw [ak5];exact L8,H8,M8⟩,by rw [iB H8.o,iB HW.o];show 2 * (l.length - E.k)+0 < 2 * _+1;have:=BX.o;omega⟩
theorem acZ (l:List Tok)(f:l.length≤1000)(n:Nat)(C:∀ m,m < n→QC 120 l m .expr)(D:QL 220 l n (.list .expr))(g:Nat)(tv iv:Value)(w:World)(s:RS)(xs:List NV)(nv:Value)(b:List Int)(a:RS)(j:uX l n s=some (b,a))(i:a.ns.length≤100000)(h:QS g tv l iv w s xs nv) :
  Calls Tryz.prog 221 #[.pointer (some ⟨g,0,none⟩)] w fun e k=>e=.returned (.int .i64 (hd b))∧∃ c gB,QS g tv l iv k a c gB∧Mw g w xs nv k c gB:=by
 by_cases d:(s.word l 1).2.next l=[40]
 ·exact afn l f n D g tv iv w s xs nv b a d j i h
 ·by_cases c1:(s.word l 1).2.next l=[123]
  ·exact aaN l f n C g tv iv w s xs nv b a d c1 j i h
  ·exact afq l f n g tv iv w s xs nv b a d c1 j i h
theorem afm (l:List Tok)(E:l.length≤1000)(hT:∀ t ∈ l,t.text.length≤100000000)(n:Nat)(C:∀ m,m≤n→QC 120 l m .expr)(D:QL 220 l n (.list .expr)):QC 213 l (n+1) .atom:=by
 intro g tv iv w s xs nv qs s' v hn h;have F:=O h;have T:=O (Mw.refl (g:=g) (w:=w) (xs:=xs) (nv:=nv));have hle:=h.le;clear h;rw [bH] at v
 by_cases ck:s.kind l=2
 ·rw [if_pos ck] at v
  obtain⟨rfl,rfl⟩:=bG v;have hb3:(s.word l 2).2.ns.length≤100000:=by simp only [RS.put,RS.dU,ak5,ak_] at hn;omega
  have ek:(s.kind l == 2)=true:=by rw [ck];rfl
  have ek':((s.kind l:Int) == 2)=true:=by rw [ck];rfl
  clear v ck;go_enter Tryz.func213,Tryz.ntmps213
  go_wp2_with fail;refine (aX g tv l iv _ _ _ _ F.o E).mono ?_;rintro e w1⟨rfl,c⟩;have y:=O (F.o.below c);have G:=O (T.o.aU c);clear c F T;go_wp2_with fail;refine (dh g tv l iv _ _ _ _ y.o E).mono ?_;rintro e j⟨rfl,c⟩;have q:=O (y.o.below c);have B:=O (G.o.aU c);clear c y G;have b:=O (bf.new j 50 #[.int .u8 0,.string (aH []),.int .i64 0,.slice none 0 0,.int .i64 (s.place l)]);have k:g < j.heap.size:=q.o.lt;have d:some j.heap.size ≠ nv.ownBlock:=fun e=>by have:=q.o.iU _ e.symm;omega
  have V:w.heap.size≤j.heap.size:=B.o.size;have A:=O (q.o.alloc (.cells #[.int .u8 0,.string (aH []),.int .i64 0,.slice none 0 0,.int .i64 (s.place l)] 50));have H:=O (B.o.dK (o:=.cells #[.int .u8 0,.string (aH []),.int .i64 0,.slice none 0 0,.int .i64 (s.place l)] 50));clear q B;go_wp2_with fail;refine (iE g tv l iv _ _ _ _ A.o E).mono ?_;rintro e w4⟨rfl,c⟩;have f:=O (A.o.below c);have I:=O (H.o.aU c)
  replace b:=O (b.o.below c b.o.lt)
  clear c A H;go_wp2_with fail;refine (m_ g tv l iv _ _ _ _ hT f.o E).mono ?_;rintro e w5⟨rfl,h,m⟩;have K:=O h;have J:=O (I.o.jU m);have r:=m.ne b.o.lt d
  replace b:=O (m.blk b.o (Nat.ne_of_gt k) d)
  clear d;have d:=r;clear r;clear h m f I;have z0:=b.o.frozen 0;have z2:=b.o.frozen 2;have X:=b.o.cell 0;have b1:=b.o.cell 1;have b2:=b.o.cell 2;have Y:=b.o.cell 3;have b4:=b.o.cell 4;have P:=O (K.o.lI b.o k d 0 (.int .u8 1));have Q:=O (J.o.jV (i:=0) (u:=.int .u8 1) V)
  replace b:=O (b.o.upd 0 (.int .u8 1) (cs':=#[.int .u8 1,.string (aH []),.int .i64 0,.slice none 0 0,.int .i64 (s.place l)]) rfl)
  clear K J;have R:=O (P.o.lI b.o k d 2 (.int .i64 (kH (s.word l 2).1)));have U:=O (Q.o.jV (i:=2) (u:=.int .i64 (kH (s.word l 2).1)) V)
  replace b:=O (b.o.upd 2 (.int .i64 (kH (s.word l 2).1)) (cs':=#[.int .u8 1,.string (aH []),.int .i64 (kH (s.word l 2).1),.slice none 0 0,.int .i64 (s.place l)]) rfl)
  clear P Q;go_wp2_with fail;refine (dZ g tv l iv _ _ _ _ 1 _ [] _ _ [] R.o (dD.none_ _) (by omega)).mono ?_;rintro e w8⟨rfl,U7,h,m⟩;have W:=O h;have M8:=O (U.o.gy W.o m kS);have r:=m.ne b.o.lt d
  replace b:=O (m.blk b.o (Nat.ne_of_gt k) d)
  clear d;have d:=r;clear r;clear h m R U;clear X b1 b2 Y b4 z0 z2;go_wp2_with fail;go_ret;exact⟨rfl,_,_,W.o,M8.o⟩
 rw [if_neg ck] at v
 have ek:(s.kind l == 2)=false:=by simpa using ck
 have ek':((s.kind l:Int) == 2)=false:=by simp;omega
 clear ck;by_cases S:s.next l=[116,114,117,101]
 ·rw [if_pos S] at v
  obtain⟨rfl,rfl⟩:=bG v;have hb3:s.ns.length≤100000:=by simp only [RS.put,RS.dU,ak5,ak_] at hn;omega
  have M:=(dM (l:=l) (s:=s) (by rw [S];simp)).2;have e0:(s.next l == [116,114,117,101])=true:=by rw [S];rfl
  clear v S;go_enter Tryz.func213,Tryz.ntmps213
  go_wp2_with fail;refine (aX g tv l iv _ _ _ _ F.o E).mono ?_;rintro e w1⟨rfl,c⟩;have y:=O (F.o.below c);have G:=O (T.o.aU c);clear c F T;go_wp2_with fail;refine (dh g tv l iv _ _ _ _ y.o E).mono ?_;rintro e j⟨rfl,c⟩;have q:=O (y.o.below c);have B:=O (G.o.aU c);clear c y G;have b:=O (bf.new j 50 #[.int .u8 0,.string (aH []),.int .i64 0,.slice none 0 0,.int .i64 (s.place l)]);have k:g < j.heap.size:=q.o.lt;have d:some j.heap.size ≠ nv.ownBlock:=fun e=>by have:=q.o.iU _ e.symm;omega
  have V:w.heap.size≤j.heap.size:=B.o.size;have A:=O (q.o.alloc (.cells #[.int .u8 0,.string (aH []),.int .i64 0,.slice none 0 0,.int .i64 (s.place l)] 50));have H:=O (B.o.dK (o:=.cells #[.int .u8 0,.string (aH []),.int .i64 0,.slice none 0 0,.int .i64 (s.place l)] 50));clear q B;go_wp2_with fail;refine (iE g tv l iv _ _ _ _ A.o E).mono ?_;rintro e w4⟨rfl,c⟩;have f:=O (A.o.below c);have I:=O (H.o.aU c)
  replace b:=O (b.o.below c b.o.lt)
  clear c A H;have n1:¬ j.heap.size=g:=Nat.ne_of_gt k;have n2:¬ g=j.heap.size:=Nat.ne_of_lt k;have z0:=b.o.frozen 0;have z2:=b.o.frozen 2;have X:=b.o.cell 0;have b1:=b.o.cell 1;have b2:=b.o.cell 2;have Y:=b.o.cell 3;have b4:=b.o.cell 4;have N:=M;have c1:=f.o.blk.cell 1;have f1:=f.o.blk.frozen 1;have K:=O (f.o.dU N);have J:=O (I.o.jU f.o.sP)
  replace b:=O (f.o.xR b.o k)
  clear f I;have P:=O (K.o.lI b.o k d 0 (.int .u8 2));have Q:=O (J.o.jV (i:=0) (u:=.int .u8 2) V)
  replace b:=O (b.o.upd 0 (.int .u8 2) (cs':=#[.int .u8 2,.string (aH []),.int .i64 0,.slice none 0 0,.int .i64 (s.place l)]) rfl)
  clear K J;have R:=O (P.o.lI b.o k d 2 (.int .i64 1));have U:=O (Q.o.jV (i:=2) (u:=.int .i64 1) V)
  replace b:=O (b.o.upd 2 (.int .i64 1) (cs':=#[.int .u8 2,.string (aH []),.int .i64 1,.slice none 0 0,.int .i64 (s.place l)]) rfl)
  clear P Q;go_wp2_with fail;refine (dZ g tv l iv _ _ _ _ 2 _ [] 1 _ [] R.o (dD.none_ _) (by show s.ns.length≤1000000;omega)).mono ?_;rintro e w8⟨rfl,U7,h,m⟩;have W:=O h;have M8:=O (U.o.gy W.o m kS);have r:=m.ne b.o.lt d
  replace b:=O (m.blk b.o (Nat.ne_of_gt k) d)
  clear d;have d:=r;clear r;clear h m R U;clear X b1 b2 Y b4 z0 z2;clear c1 f1;go_wp2_with fail;go_ret;exact⟨rfl,_,_,W.o,M8.o⟩
 rw [if_neg S] at v
 by_cases c1:s.next l=[102,97,108,115,101]
 ·rw [if_pos c1] at v
  obtain⟨rfl,rfl⟩:=bG v;have hb3:s.ns.length≤100000:=by simp only [RS.put,RS.dU,ak5,ak_] at hn;omega
  have M:=(dM (l:=l) (s:=s) (by rw [c1];simp)).2;have e0:(s.next l == [116,114,117,101])=false:=by simpa using S
  have e1:(s.next l == [102,97,108,115,101])=true:=by rw [c1];rfl
  clear v S c1;go_enter Tryz.func213,Tryz.ntmps213
  go_wp2_with fail;refine (aX g tv l iv _ _ _ _ F.o E).mono ?_;rintro e w1⟨rfl,c⟩;have y:=O (F.o.below c);have G:=O (T.o.aU c);clear c F T;go_wp2_with fail;refine (dh g tv l iv _ _ _ _ y.o E).mono ?_;rintro e j⟨rfl,c⟩;have q:=O (y.o.below c);have B:=O (G.o.aU c);clear c y G;have b:=O (bf.new j 50 #[.int .u8 0,.string (aH []),.int .i64 0,.slice none 0 0,.int .i64 (s.place l)]);have k:g < j.heap.size:=q.o.lt;have d:some j.heap.size ≠ nv.ownBlock:=fun e=>by have:=q.o.iU _ e.symm;omega
  have V:w.heap.size≤j.heap.size:=B.o.size;have A:=O (q.o.alloc (.cells #[.int .u8 0,.string (aH []),.int .i64 0,.slice none 0 0,.int .i64 (s.place l)] 50));have H:=O (B.o.dK (o:=.cells #[.int .u8 0,.string (aH []),.int .i64 0,.slice none 0 0,.int .i64 (s.place l)] 50));clear q B;go_wp2_with fail;refine (iE g tv l iv _ _ _ _ A.o E).mono ?_;rintro e w4⟨rfl,c⟩;have f:=O (A.o.below c);have I:=O (H.o.aU c)
  replace b:=O (b.o.below c b.o.lt)
  clear c A H;have n1:¬ j.heap.size=g:=Nat.ne_of_gt k;have n2:¬ g=j.heap.size:=Nat.ne_of_lt k;have z0:=b.o.frozen 0;have z2:=b.o.frozen 2;have X:=b.o.cell 0;have b1:=b.o.cell 1;have b2:=b.o.cell 2;have Y:=b.o.cell 3;have b4:=b.o.cell 4;have N:=M;have c1:=f.o.blk.cell 1;have f1:=f.o.blk.frozen 1;have K:=O (f.o.dU N);have J:=O (I.o.jU f.o.sP)
  replace b:=O (f.o.xR b.o k)
  clear f I;have P:=O (K.o.lI b.o k d 0 (.int .u8 2));have Q:=O (J.o.jV (i:=0) (u:=.int .u8 2) V)
  replace b:=O (b.o.upd 0 (.int .u8 2) (cs':=#[.int .u8 2,.string (aH []),.int .i64 0,.slice none 0 0,.int .i64 (s.place l)]) rfl)
  clear K J;go_wp2_with fail;refine (dZ g tv l iv _ _ _ _ 2 _ [] 0 _ [] P.o (dD.none_ _) (by show s.ns.length≤1000000;omega)).mono ?_;rintro e w7⟨rfl,nv7,h,m⟩;have R:=O h;have U:=O (Q.o.gy R.o m kS);have r:=m.ne b.o.lt d
  replace b:=O (m.blk b.o (Nat.ne_of_gt k) d)
  clear d;have d:=r;clear r;clear h m P Q;clear X b1 b2 Y b4 z0 z2;clear c1 f1;go_wp2_with fail;go_ret;exact⟨rfl,_,_,R.o,U.o⟩
 rw [if_neg c1] at v
 by_cases c2:s.next l=[40]
 ·rw [if_pos c2] at v
  obtain⟨a,t1,r1,v⟩:=aN v;obtain⟨rfl,rfl⟩:=dX v;have hb1:=((To.refl (s:=t1)).take (l:=l) (x:=[41]) (by simp)).few;have M:=(dM (l:=l) (s:=s) (by rw [c2];simp)).2;have e0:(s.next l == [116,114,117,101])=false:=by simpa using S
  have e1:(s.next l == [102,97,108,115,101])=false:=by simpa using c1
  have e2:(s.next l == [40])=true:=by rw [c2];rfl
  have Z:=O r1;clear v r1 S c1 c2;go_enter Tryz.func213,Tryz.ntmps213
  go_wp2_with fail;refine (aX g tv l iv _ _ _ _ F.o E).mono ?_;rintro e w1⟨rfl,c⟩;have y:=O (F.o.below c);have G:=O (T.o.aU c);clear c F T;go_wp2_with fail;refine (dh g tv l iv _ _ _ _ y.o E).mono ?_;rintro e j⟨rfl,c⟩;have q:=O (y.o.below c);have B:=O (G.o.aU c);clear c y G;have b:=O (bf.new j 50 #[.int .u8 0,.string (aH []),.int .i64 0,.slice none 0 0,.int .i64 (s.place l)]);have k:g < j.heap.size:=q.o.lt;have d:some j.heap.size ≠ nv.ownBlock:=fun e=>by have:=q.o.iU _ e.symm;omega
  have V:w.heap.size≤j.heap.size:=B.o.size;have A:=O (q.o.alloc (.cells #[.int .u8 0,.string (aH []),.int .i64 0,.slice none 0 0,.int .i64 (s.place l)] 50));have H:=O (B.o.dK (o:=.cells #[.int .u8 0,.string (aH []),.int .i64 0,.slice none 0 0,.int .i64 (s.place l)] 50));clear q B;go_wp2_with fail;refine (iE g tv l iv _ _ _ _ A.o E).mono ?_;rintro e w4⟨rfl,c⟩;have f:=O (A.o.below c);have I:=O (H.o.aU c)
  replace b:=O (b.o.below c b.o.lt)
  clear c A H;have N:=M;have c1:=f.o.blk.cell 1;have f1:=f.o.blk.frozen 1;have K:=O (f.o.dU N);have J:=O (I.o.jU f.o.sP)
  replace b:=O (f.o.xR b.o k)
  clear f I;go_wp2_with fail;clear c1 f1;go_wp2_with fail;refine (C n (ak0 _) g tv iv _ _ _ _ _ _ Z.o (by omega) K.o).mono ?_;rintro e w6⟨rfl,xs6,nv6,h,m⟩;have P:=O h;have Q:=O (J.o.trans m);have r:=m.ne b.o.lt d
  replace b:=O (m.blk b.o (Nat.ne_of_gt k) d)
  clear d;have d:=r;clear r;clear h m K J;go_wp2_with fail;refine (eT g tv l iv _ _ _ _ [41] (by simp) P.o E).mono ?_;rintro e w7⟨rfl,h,m⟩;have R:=O h;have U:=O (Q.o.jU m);have r:=m.ne b.o.lt d
  replace b:=O (m.blk b.o (Nat.ne_of_gt k) d)
  clear d;have d:=r;clear r;clear h m P Q;go_wp2_with fail;go_ret;exact⟨rfl,_,_,R.o,U.o⟩
 rw [if_neg c2] at v
 by_cases c3:s.next l=[91]
 ·rw [if_pos c3] at v
  obtain⟨a,t1,r1,v⟩:=aN v;obtain⟨rfl,rfl⟩:=bG v;have hb3:(t1.take l [93]).ns.length≤100000:=by simp only [RS.put,ak5,ak_] at hn;omega
  have hb1:=((To.refl (s:=t1)).take (l:=l) (x:=[93]) (by simp)).few;have M:=(dM (l:=l) (s:=s) (by rw [c3];simp)).2;have e0:(s.next l == [116,114,117,101])=false:=by simpa using S
  have e1:(s.next l == [102,97,108,115,101])=false:=by simpa using c1
  have e2:(s.next l == [40])=false:=by simpa using c2
  have e3:(s.next l == [91])=true:=by rw [c3];rfl
  have Z:=O r1;clear v r1 S c1 c2 c3;go_enter Tryz.func213,Tryz.ntmps213
  go_wp2_with fail;refine (aX g tv l iv _ _ _ _ F.o E).mono ?_;rintro e w1⟨rfl,c⟩;have y:=O (F.o.below c);have G:=O (T.o.aU c);clear c F T;go_wp2_with fail;refine (dh g tv l iv _ _ _ _ y.o E).mono ?_;rintro e j⟨rfl,c⟩;have q:=O (y.o.below c);have B:=O (G.o.aU c);clear c y G;have b:=O (bf.new j 50 #[.int .u8 0,.string (aH []),.int .i64 0,.slice none 0 0,.int .i64 (s.place l)]);have k:g < j.heap.size:=q.o.lt;have d:some j.heap.size ≠ nv.ownBlock:=fun e=>by have:=q.o.iU _ e.symm;omega
  have V:w.heap.size≤j.heap.size:=B.o.size;have A:=O (q.o.alloc (.cells #[.int .u8 0,.string (aH []),.int .i64 0,.slice none 0 0,.int .i64 (s.place l)] 50));have H:=O (B.o.dK (o:=.cells #[.int .u8 0,.string (aH []),.int .i64 0,.slice none 0 0,.int .i64 (s.place l)] 50));clear q B;go_wp2_with fail;refine (iE g tv l iv _ _ _ _ A.o E).mono ?_;rintro e w4⟨rfl,c⟩;have f:=O (A.o.below c);have I:=O (H.o.aU c)
  replace b:=O (b.o.below c b.o.lt)
  clear c A H;have N:=M;have c1:=f.o.blk.cell 1;have f1:=f.o.blk.frozen 1;have K:=O (f.o.dU N);have J:=O (I.o.jU f.o.sP)
  replace b:=O (f.o.xR b.o k)
  clear f I;go_wp2_with fail;clear c1 f1;go_wp2_with fail;refine (D g tv iv _ _ _ _ _ _ Z.o (by omega) K.o).mono ?_;rintro e w6⟨AL,cL,xs6,nv6,rfl,hL,h,m⟩;have L:=O (hL.base J.o.size);clear hL;have P:=O h;have Q:=O (J.o.trans m);have r:=m.ne b.o.lt d
  replace b:=O (m.blk b.o (Nat.ne_of_gt k) d)
  clear d;have d:=r;clear r;clear h m K J;have z0:=b.o.frozen 0;have z3:=b.o.frozen 3;have X:=b.o.cell 0;have Y:=b.o.cell 3;have R:=O (P.o.lI b.o k d 0 (.int .u8 26));have U:=O (Q.o.jV (i:=0) (u:=.int .u8 26) V)
  replace L:=O (L.o.vP b.o 0 (.int .u8 26))
  replace b:=O (b.o.upd 0 (.int .u8 26) (cs':=#[.int .u8 26,.string (aH []),.int .i64 0,.slice none 0 0,.int .i64 (s.place l)]) rfl)
  clear P Q;have W:=O (R.o.lI b.o k d 3 (.slice AL a.length cL));have M8:=O (U.o.jV (i:=3) (u:=.slice AL a.length cL) V)
  replace L:=O (L.o.vP b.o 3 (.slice AL a.length cL))
  replace b:=O (b.o.upd 3 (.slice AL a.length cL) (cs':=#[.int .u8 26,.string (aH []),.int .i64 0,.slice AL a.length cL,.int .i64 (s.place l)]) rfl)
  clear R U;go_wp2_with fail;refine (eT g tv l iv _ _ _ _ [93] (by simp) W.o E).mono ?_;rintro e w9⟨rfl,h,m⟩;have H9:=O h;have M9:=O (M8.o.jU m);have r:=m.ne b.o.lt d
  replace b:=O (m.blk b.o (Nat.ne_of_gt k) d)
  clear d;have d:=r;clear r
  replace L:=O (L.o.mv W.o m)
  clear h m W M8;clear X Y z0 z3;have X:=b.o.cell 0;have b1:=b.o.cell 1;have b2:=b.o.cell 2;have Y:=b.o.cell 3;have b4:=b.o.cell 4;have LK:=O L.o.row;have TD:=L.o.lo;clear L;go_wp2_with fail;refine (dZ g tv l iv _ _ _ _ 26 _ [] 0 _ a H9.o LK.o (by omega)).mono ?_;rintro e Og⟨rfl,acB,h,m⟩;have zx:=O h;have Cm:=O (M9.o.gy zx.o m TD);have r:=m.ne b.o.lt d
  replace b:=O (m.blk b.o (Nat.ne_of_gt k) d)
  clear d;have d:=r;clear r;clear h m H9 M9;clear X b1 b2 Y b4;go_wp2_with fail;go_ret;exact⟨rfl,_,_,zx.o,Cm.o⟩
 rw [if_neg c3] at v
 have e0:(s.next l == [116,114,117,101])=false:=by simpa using S
 have e1:(s.next l == [102,97,108,115,101])=false:=by simpa using c1
 have e2:(s.next l == [40])=false:=by simpa using c2
 have e3:(s.next l == [91])=false:=by simpa using c3
 have HR:=O (show uX l n s=some (qs,s') from v);clear v S c1 c2 c3;go_enter Tryz.func213,Tryz.ntmps213
 go_wp2_with fail;refine (aX g tv l iv _ _ _ _ F.o E).mono ?_;rintro e w1⟨rfl,c⟩;have y:=O (F.o.below c);have G:=O (T.o.aU c);clear c F T;go_wp2_with fail;refine (dh g tv l iv _ _ _ _ y.o E).mono ?_;rintro e j⟨rfl,c⟩;have q:=O (y.o.below c);have B:=O (G.o.aU c);clear c y G;have b:=O (bf.new j 50 #[.int .u8 0,.string (aH []),.int .i64 0,.slice none 0 0,.int .i64 (s.place l)]);have k:g < j.heap.size:=q.o.lt;have d:some j.heap.size ≠ nv.ownBlock:=fun e=>by have:=q.o.iU _ e.symm;omega
 have V:w.heap.size≤j.heap.size:=B.o.size;have A:=O (q.o.alloc (.cells #[.int .u8 0,.string (aH []),.int .i64 0,.slice none 0 0,.int .i64 (s.place l)] 50));have H:=O (B.o.dK (o:=.cells #[.int .u8 0,.string (aH []),.int .i64 0,.slice none 0 0,.int .i64 (s.place l)] 50));clear q B;go_wp2_with fail;refine (iE g tv l iv _ _ _ _ A.o E).mono ?_;rintro e w4⟨rfl,c⟩;have f:=O (A.o.below c);have I:=O (H.o.aU c)
 replace b:=O (b.o.below c b.o.lt)
 clear c A H;go_wp2_with fail;refine (acZ l E n (fun m hm=>C m (by omega)) D g tv iv _ _ _ _ _ _ HR.o hn f.o).mono ?_;rintro e w5⟨rfl,xs5,Sn,h,m⟩;have K:=O h;have J:=O (I.o.trans m);have r:=m.ne b.o.lt d
 replace b:=O (m.blk b.o (Nat.ne_of_gt k) d)
 clear d;have d:=r;clear r;clear h m f I;go_wp2_with fail;go_ret;exact⟨rfl,_,_,K.o,J.o⟩
structure KO (l:List Tok) (n:Nat):Prop where
 expr:QC 120 l n .expr
 or_:QC 148 l n (.lv .or)
 ahD:QC 181 l n (.lv .and)
 not_:QC 194 l n (.lv .not)
 cmp:QC 206 l n (.lv .cmp)
 sum:QC 195 l n (.lv .sum)
 term:QC 196 l n (.lv .term)
 unary:QC 197 l n (.lv .unary)
 post:QC 207 l n .post
 atom:QC 213 l n .atom
 typ:QC 118 l n .typ
 list:QL 220 l n (.list .expr)
 param:QL 117 l n (.list .param)
theorem adX (l:List Tok)(c:l.length≤1000)(e:∀ t ∈ l,t.text.length≤100000000):∀ n,KO l n:=by
 intro n
 induction n using Nat.strongRecOn with
 | _ n h =>
  rcases n with _ | n
  ·have d:∀ (F:Nat) (j:Job),QC F l 0 j:=fun F j g tv iv w s xs nv k o f=>absurd f (by simp [bH])
   have i:∀ (F:Nat) (j:Job),QL F l 0 j:=fun F j g tv iv w s xs nv k o f=>absurd f (by simp [bH])
   exact⟨d _ _,d _ _,d _ _,d _ _,d _ _,d _ _,d _ _,d _ _,d _ _,d _ _,d _ _,i _ _,i _ _⟩
  ·have a:=h n (Nat.lt_succ_self n);have le:∀ m,m≤n→KO l m:=fun m b=>h m (Nat.lt_succ_of_le b)
   exact⟨afo l c n a.expr a.or_,ai3 l c n fun m b=>(le m b).ahD,ag4 l c n fun m b=>(le m b).not_,ag7 l c n a.not_ a.cmp,ag6 l c n fun m b=>(le m b).sum,ag8 l c n fun m b=>(le m b).term,afs l c n fun m b=>(le m b).unary,ac0 l c n a.unary a.post,afr l c n a.atom fun m b=>(le m b).expr,afm l c e n (fun m b=>(le m b).expr) a.list,ag9 l c e n a.typ,acX l c n fun m b=>(le m b).expr,aaL l c e (n+1) fun m b=>(h m b).typ⟩
theorem BJ (x:Bs):0≤kH x∧kH x≤9999:=by
 unfold kH;by_cases h:kind x=2
 ·rw [nM x h];obtain⟨h3,_,h4⟩:=uT _ h
  have:=yN _ h4 h3
  simp only
  omega
 ·rw [oW x h];simp
theorem MP (g:Nat)(tv:Value)(l:List Tok)(iv:Value)(w:World)(s:RS)(xs:List NV)(nv:Value)(H:∀ t ∈ l,t.text.length≤100000000)(h:QS g tv l iv w s xs nv)(q:(rO l s).2.ns.length≤100000)(n:l.length≤1000) :
  Calls Tryz.prog 116 #[.pointer (some ⟨g,0,none⟩)] w fun e I=>e=.returned (.int .i64 (hd (rO l s).1))∧∃ B gB,QS g tv l iv I (rO l s).2 B gB∧Mw g w xs nv I B gB:=by
 have k:=O h;have C:=O (Mw.refl (g:=g) (w:=w) (xs:=xs) (nv:=nv));have M:=h.le;clear h;by_cases d:s.next l=[45]
 ·have v:=O (show rO l s=(s.dU.word l 2).2.put ⟨1,[],-kH (s.dU.word l 2).1,[],s.place l⟩ from if_pos d);rw [v.o] at q ⊢
  have F:(s.dU.word l 2).2.ns.length≤100000:=by simp only [RS.put,ak5,ak_] at q;omega
  have j:=(dM (l:=l) (s:=s) (by rw [d];simp)).2;have i:=BJ (s.dU.word l 2).1;have K:(s.next l == [45])=true:=by rw [d];rfl
  clear d q;go_in
  go_wp2_with fail;refine (dh g tv l iv _ _ _ _ k.o n).mono ?_;rintro e w1⟨rfl,a⟩;have c:=O (k.o.below a);have x:=O (C.o.aU a);clear a k C;go_wp2_with fail;refine (aX g tv l iv _ _ _ _ c.o n).mono ?_;rintro e Q⟨rfl,a⟩;have b:=O (c.o.below a);have y:=O (x.o.aU a);clear a c x;have j:=j;have c1:=b.o.blk.cell 1;have L:=b.o.blk.frozen 1;have r:=O (b.o.dU j);have A:=O (y.o.jU b.o.sP);clear b y;go_wp2_with fail;clear c1 L;go_wp2_with fail;refine (m_ g tv l iv _ _ _ _ H r.o n).mono ?_;rintro e R⟨rfl,h,m⟩;have u:=O h;have D:=O (A.o.jU m);clear h m r A;obtain⟨N,f⟩:∃ N,N=kH (s.dU.word l 2).1:=⟨_,rfl⟩;rw [← f] at i ⊢
  have E:=O f;clear f v;have P:IntKind.i64.wrap (-1 * N)=-N:=by rw [show -1 * N=-N by omega];exact IntWalk.i64_in _ (by omega)
  go_wp2_with fail;refine (dZ g tv l iv _ _ _ _ 1 _ [] (-N) _ [] u.o (dD.none_ _) (by omega)).mono ?_;rintro e V⟨rfl,T,h,m⟩;have G:=O h;have J:=O (D.o.gy G.o m kS);clear h m u D;go_wp2_with fail;go_ret;have h8:=G.o;have h9:=J.o;rw [E.o] at h8 h9
  exact⟨rfl,_,_,h8,h9⟩
 ·have v:=O (show rO l s=(s.word l 2).2.put ⟨1,[],kH (s.word l 2).1,[],s.place l⟩ from if_neg d);rw [v.o] at q ⊢
  have F:(s.word l 2).2.ns.length≤100000:=by simp only [RS.put,ak5,ak_] at q;omega
  have i:=BJ (s.word l 2).1;have K:(s.next l == [45])=false:=by simpa using d
  clear d q;go_in
  go_wp2_with fail;refine (dh g tv l iv _ _ _ _ k.o n).mono ?_;rintro e w1⟨rfl,a⟩;have c:=O (k.o.below a);have x:=O (C.o.aU a);clear a k C;go_wp2_with fail;refine (aX g tv l iv _ _ _ _ c.o n).mono ?_;rintro e Q⟨rfl,a⟩;have b:=O (c.o.below a);have y:=O (x.o.aU a);clear a c x;go_wp2_with fail;refine (m_ g tv l iv _ _ _ _ H b.o n).mono ?_;rintro e U⟨rfl,h,m⟩;have r:=O h;have A:=O (y.o.jU m);clear h m b y;obtain⟨N,f⟩:∃ N,N=kH (s.word l 2).1:=⟨_,rfl⟩;rw [← f] at i ⊢
  have E:=O f;clear f v;go_wp2_with fail;refine (dZ g tv l iv _ _ _ _ 1 _ [] N _ [] r.o (dD.none_ _) (by omega)).mono ?_;rintro e R⟨rfl,S,h,m⟩;have u:=O h;have D:=O (A.o.gy u.o m kS);clear h m r A;go_wp2_with fail;go_ret;have h8:=u.o;have h9:=D.o;rw [E.o] at h8 h9
  exact⟨rfl,_,_,h8,h9⟩
