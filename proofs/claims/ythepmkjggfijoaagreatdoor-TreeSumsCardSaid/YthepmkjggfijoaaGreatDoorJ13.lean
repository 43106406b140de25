/-
  A part of the proof.
-/
import Derived.Test.YthepmkjggfijoaaGreatDoorSA
import Derived.BigQuiet
import Derived.Test.YthepmkjggfijoaaGreatDoorS32
import Derived.Test.YthepmkjggfijoaaGreatDoorCards
import Derived.Test.YthepmkjggfijoaaGreatDoorJ09
import Derived.Test.YthepmkjggfijoaaGreatDoorJ12
set_option linter.all false
set_option maxRecDepth 100000
set_option maxHeartbeats 4000000
open Go.Lib (hid)
namespace Go.Proofs.YthepmkjggfijoaaGreatDoor
open Go.RowKit Mist
attribute [local go_sem] aj aH aS aB ak
structure SRow (w0 w:World) (v:Value) (S:List Int):Prop where
 row:cB w v S
 lo:∀ b,v.ownBlock=some b→w0.heap.size≤b
section
variable {w0 w w1:World} {v:Value} {S:List Int}
theorem SRow.below (h:SRow w0 w v S)(hb:Below w.heap.size w w1):SRow w0 w1 v S:=⟨cB.below h.row hb,h.lo⟩
theorem SRow.alloc (h:SRow w0 w v S)(o:Obj):SRow w0 (w.alloc o) v S:=⟨cB.alloc h.row o,h.lo⟩
theorem SRow.grow (h:SRow w0 w v S){gg cap:Nat}{k:Int}(hown:w1.ownsRow 0 3 1 (.slice (some ⟨gg,0,none⟩) (S.length+1) cap) (S.length+1) (intCells S ++ [.int .i64 k]))(hat:v.ownBlock=some gg∨gg=w.heap.size)(h0:w0.heap.size≤w.heap.size):SRow w0 w1 (.slice (some ⟨gg,0,none⟩) (S.length+1) cap) (S ++ [k]):=by
 refine⟨?_,fun b hb=>?_⟩
 ·unfold cB;rw [aaO,eT];exact hown
 ·have hb:gg=b:=by simpa [Value.ownBlock] using hb
  subst hb;rcases hat with e | e
  ·exact h.lo _ e
  ·omega
end
def szL1 (T:Tr)(k:Nat):List Int:=(List.range k).map fun i=>(szN T i:Int)
theorem szL1_len (T:Tr)(k:Nat):(szL1 T k).length=k:=by unfold szL1;rw [List.length_map,List.length_range]
theorem szL1_step (T:Tr)(k:Nat):szL1 T k ++ [(szN T k:Int)]=szL1 T (k+1):=by unfold szL1;rw [List.range_succ,List.map_append];rfl
theorem szL1_at (T:Tr){k i:Nat}(h:i < k):(szL1 T k)[i]? = some (szN T i:Int):=by
 unfold szL1;rw [List.getElem?_map,List.getElem?_range h];rfl
theorem sums_law (zA:Bs)(lv:Value)(w:World)(hE:Env w)(hP:Pow w)(hS:SeedIn w w.heap.size lv zA) :
  Calls Tryz.prog 12 #[lv] w fun e w'=>e=.returned (.bool true)∧Below w.heap.size w w':=by
 have HE:=hid hE;clear hE;have HGR:=hid (grow_any false zA lv w hP hS);obtain⟨A0,c0,rfl,_⟩:=id hS;obtain⟨j0,hj0,hy0,hy1,hy2⟩:=info_parts gN;clear hS hP;go_in
 go_wp2_with fail;refine HGR.out.mono ?_;rintro e w1⟨hb1,A,B,c,d,xs,rfl,hns,hT⟩;have HB1:=hid hb1;have HT0:=hid hT;have rC:=hid hns;clear hb1 hT hns HGR
 cases hok:grownOk (grownText false zA)
 case false =>
  clear hok;have HBA:=hid (ah HB1.out HB1.out.size (o:=.cells #[.slice A xs.length c,.slice B (grown false zA).ix.length d] 26));go_wp2_with fail;refine (rV _ (HE.out.below HBA.out)).mono ?_;rintro e w2⟨rfl,hb2⟩;have HL2:=hid (btr HBA.out hb2);clear hb2;go_wp2_with fail;go_ret;exact⟨by first | rfl | simp,HL2.out⟩
 have F:=own_fine false zA hok;clear hok;obtain⟨T,ni⟩:∃ T,T=grownTree false zA:=⟨_,rfl⟩;rw [← ni] at F
 have hTn:aA xs=T.nodes:=by rw [ni];exact rC.out
 have hTi:(grown false zA).ix=T.items:=by rw [ni];rfl
 have hl:xs.length=T.nodes.length:=by rw [← aD,hTn]
 rw [hTi] at HT0 ⊢
 have hTA:mq w1 A B xs T.items:=HT0.out fun x hx=>F.good.kids x.1 (by rw [← hTn];exact List.mem_map.2 ⟨x,hx,rfl⟩)
 rw [hl];have HF:=hid F;have HN8:=F.few;have HI8:=F.itf;have U_:=hid hTn;have HXL:=hid hl;clear ni hTi rC HT0 F hTn hl;have HB2:=hid (ah HB1.out HB1.out.size (o:=.cells #[.slice A T.nodes.length c,.slice B T.items.length d] 26));have rE:=hid (aC.new w1 26 #[.slice A T.nodes.length c,.slice B T.items.length d]);have Lx:=hid (hTA.below (ah (Below.refl w1.heap.size w1) (aaJ _) (o:=.cells #[.slice A T.nodes.length c,.slice B T.items.length d] 26)));have HE2:=hid (HE.out.below HB2.out)
 have HSR:=hid (show SRow (w1.alloc (.cells #[.slice A T.nodes.length c,.slice B T.items.length d] 26)) ((w1.alloc (.cells #[.slice A T.nodes.length c,.slice B T.items.length d] 26)).alloc (.cells #[] 3)) (.slice (some ⟨w1.heap.size+1,0,none⟩) 0 0) (szL1 T 0) from
  ⟨by have:=Mx (w1.alloc (.cells #[.slice A T.nodes.length c,.slice B T.items.length d] 26)) [];simpa [intCells,szL1] using this,fun b hb=>by simp [Value.ownBlock] at hb;simp;omega⟩)
 have HBS:=hid (ah (Below.refl (w1.alloc (.cells #[.slice A T.nodes.length c,.slice B T.items.length d] 26)).heap.size (w1.alloc (.cells #[.slice A T.nodes.length c,.slice B T.items.length d] 26))) (aaJ _) (o:=.cells #[] 3));have hlt2:w1.heap.size < (w1.alloc (.cells #[.slice A T.nodes.length c,.slice B T.items.length d] 26)).heap.size:=by simp
 clear hTA HE HB1;go_wp2_with fail;obtain⟨sb,hsb⟩:∃ sb,sb=w1.heap.size+1:=⟨_,rfl⟩;rw [← hsb] at HSR ⊢
 clear hsb
 generalize w1.alloc (.cells #[.slice A T.nodes.length c,.slice B T.items.length d] 26)=w2 at HSR HBS HB2 rE Lx HE2 hlt2 ⊢
 generalize w1.heap.size=tb at rE hlt2 ⊢
 go_loopw [6,9] (fun sv i wr=>∃ (k:Nat) (As:Option Addr) (cs:Nat),k≤T.nodes.length∧i=.int .i64 k∧sv=.slice As k cs∧Hid (SRow w2 wr (.slice As k cs) (szL1 T k))∧Hid (Below w2.heap.size w2 wr)) (fun _ i _=>T.nodes.length - (intOf i).toNat)
 case atStart=>exact⟨0,_,_,aaL _,rfl,rfl,HSR,HBS⟩
 case round =>
  clear HSR HBS;obtain⟨wo,rfl⟩:∃ wo:World,wo=wr:=⟨_,rfl⟩;obtain⟨k,As,cs,hk,rfl,rfl,HS,HB⟩:=hrel;have HTW:=hid (rE.out.below HB.out hlt2);have t0:=HTW.out.cell 0;have t1:=HTW.out.cell 1;have HTC:=hid (⟨⟨xs,Lx.out.below HB.out,U_.out⟩⟩:CopyAt wo A B T.nodes T.items);have HEW:=hid (HE2.out.below HB.out);by_cases hlt:k < T.nodes.length
  ·obtain⟨x,hx⟩:∃ x,xs[k]? = some x:=jD (by rw [HXL.out];exact hlt);have hX:T.nodes[k]? = some x.1:=by rw [← U_.out];exact gP hx
   have HSA:=hid (HF.out.sums hX);have z0:(0:Int)≤(k:Int):=by omega
   have z1:(k:Int) < (T.nodes.length:Int):=by omega
   have HXX:=hid hx;clear hX hx;go_wp2_with fail;refine (own_copy HF.out c d HTC.out).mono ?_;rintro e w3⟨h,An,Bn,cn,dn,rfl,hc⟩;have HB3:=hid (HB.out.trans (h.mono HB.out.size));have Qj:=hid (HEW.out.below h);have U6:=hid (HS.out.below h);have HC3:=hid hc;clear h hc HB HS HEW HTC;go_wp2_with fail;refine (size_copy HF.out cn dn HC3.out Qj.out hlt).mono ?_;rintro e w4⟨rfl,h⟩;have tO:=hid (HB3.out.trans (h.mono HB3.out.size));have HS4:=hid (U6.out.below h);clear h HB3 U6 Qj HC3 t0 t1 HTW;have HTW:=hid (rE.out.below tO.out hlt2);have t0:=HTW.out.cell 0;have t1:=HTW.out.cell 1;obtain⟨b,o,hA,yc⟩:=Lx.out.nodes (by rw [HXL.out];omega);have c3:=(tO.out.cell (p:=⟨b,o+k * 5+3,none⟩) yc.lt).trans (yc.c3 k x HXX.out);obtain⟨Ka,ca,hxe,hxl,hxk⟩:=yc.kid HXX.out;rw [hxe] at c3
   have tK:=hid (hxk.below tO.out);clear yc hxe hxk;obtain⟨⟨kd,tx,nn,ks,at_⟩,xv⟩:=x;simp only at c3 hxl tK HSA
   have hsum:=HSA.out.sum;have hle:=HSA.out.le;simp only at hsum
   obtain⟨nk,hnk⟩:∃ nk,nk=ks.length:=⟨_,rfl⟩;rw [← hnk] at c3 hxl
   have nu:=hid hnk;clear hnk
   have HSI:=hid (show IntsIn w4 As (szL1 T k) from by
    have h9:=HS4.out.row;unfold cB at h9
    rw [szL1_len] at h9
    exact yI h9 (szL1_len T k).symm)
   rw [hA] at t0
   have vK:=hid hA;clear hA;obtain⟨sz,hsz⟩:∃ sz,sz=szN T k:=⟨_,rfl⟩;rw [← hsz] at hsum hle ⊢
   have Jh:=hid hsz;clear hsz;have hsum1:kidSum T ks+1=sz:=by omega
   have HSM:=hid hsum;clear hsum;go_wp2_with fail;go_loopw [12,13] (fun wt kk wq=>∃ j:Nat,j≤nk∧kk=.int .i64 j∧wt=.int .i64 ((1+kidSum T (ks.take j):Nat):Int)∧wq=w4) (fun _ kk _=>nk - (intOf kk).toNat)
   case atStart=>exact⟨0,aaL _,rfl,rfl,rfl⟩
   case round =>
    obtain⟨j,hj,rfl,rfl,rfl⟩:=hrel;have hks:=kidSum_take T ks j;by_cases hjl:j < nk
    ·obtain⟨q,hq⟩:∃ q,ks[j]? = some q:=⟨_,aaD (by rw [← nu.out];exact hjl)⟩;have hq0:=HSA.out.kid q (aaM hq);obtain⟨u,rfl⟩:∃ u:Nat,q=(u:Int):=⟨q.toNat,by omega⟩;obtain⟨bk,ok,rfl,_,hkc⟩:=tK.out.ex (by rw [← nu.out];omega);have k0:=hkc j _ hq;obtain⟨bs,os,rfl,_,hsc⟩:=HSI.out.ex (by rw [szL1_len];omega);have k1:=hsc u _ (szL1_at T (by omega));have hst:=kidSum_step T hq;rw [aaQ] at hst
     have hks2:=kidSum_take T ks (j+1);obtain⟨p,hp⟩:∃ p,p=kidSum T (ks.take j):=⟨_,rfl⟩;obtain⟨v,hv⟩:∃ v,v=szN T u:=⟨_,rfl⟩;rw [← hp,← hv] at hst
     rw [← hv] at k1
     rw [← hp] at hks ⊢
     rw [hst] at hks2
     have HST:=hid hst;clear hp hv hst hkc hsc hq;have y0:(0:Int)≤(j:Int):=by omega
     have y1:(j:Int) < (nk:Int):=by omega
     have y2:(0:Int)≤(u:Int):=by omega
     have y3:(u:Int) < (k:Int):=by omega
     go_wp2_with fail;exact⟨⟨j+1,by omega,by go_num,by rw [HST.out];go_num,trivial⟩,by simp [intOf];omega⟩
    ·obtain rfl:j=nk:=by omega
     rw [aaN (by rw [nu.out];exact aaJ _),show 1+kidSum T ks=sz by omega];clear hks hjl hj;have LA:=hid (HS4.out.alloc (.cells #[.int .i64 (sz:Int)] 3));have hrow:=LA.out.row;unfold cB at hrow
     rw [szL1_len] at hrow
     have HRW:=hid hrow;clear hrow;have HBA:=hid (ah tO.out tO.out.size (o:=.cells #[.int .i64 (sz:Int)] 3));have hms:=HBA.out.size;have hk9:k≤800:=by omega
     go_wp2_with (at_builtin;go_loud (refine wpList_append_lies _ rfl (.tmp 81) (.tmp 83) 24 rfl 0 3 j0 (.int .i64 0) 1 8 Tryz.underlying24 hj0 hy0 hy1 hy2 rfl (by decide) _ k (intCells (szL1 T k)) rfl HRW.out ⟨wr.heap.size,0,none⟩ 1 1 [.int .i64 (sz:Int)] rfl rfl (cell_one_new _ _ _) (by simp [Value.oneCell']) (by omega) (by simp only [maxLen];omega) (by omega) (aaL _) _ rfl ?_);intro gg cap Tx hown hgrow hat hlt9;have L3:=hid (SRow.grow (w1:=Tx) LA.out (by rw [szL1_len];exact hown) hat hms);have HB3:=hid (HBA.out.grown hgrow hms LA.out.lo);clear hown hgrow hat hlt9)
     clear LA HRW HBA
     have L4:=hid (show SRow w2 Tx (.slice (some ⟨gg,0,none⟩) (k+1) cap) (szL1 T (k+1)) from by
      have h9:=L3.out;rw [szL1_len,Jh.out,szL1_step] at h9
      exact h9)
     exact⟨⟨k+1,_,_,by omega,by go_num,rfl,L4,HB3⟩,by simp [intOf];omega⟩
  ·obtain rfl:k=T.nodes.length:=by omega
   clear hlt hk;have HZN:=hid (HF.out.all);have hcz:cntN T.items 0=0:=cnt_zero fun c hc=>(HF.out.fo.ids c hc).1
   have HTZ:=hid hcz;clear hcz;go_wp2_with fail;go_loopw [7,8,14] (fun al it i wp=>∃ k:Nat,k≤T.nodes.length∧i=.int .i64 k∧it=.int .i64 (cntN T.items k:Int)∧al=.int .i64 (allN T (cntN T.items k):Int)∧Hid (Below wo.heap.size wo wp)) (fun _ _ i _=>T.nodes.length - (intOf i).toNat)
   case atStart=>exact⟨0,aaL _,rfl,by rw [HTZ.out];rfl,by rw [HTZ.out];rfl,hid (Below.refl _ _)⟩
   case round =>
    obtain⟨wp,rfl⟩:∃ wp:World,wp=wr:=⟨_,rfl⟩;obtain⟨k,hk,rfl,rfl,rfl,HO⟩:=hrel;have HBP:=hid (HB.out.trans (HO.out.mono HB.out.size));have HTW:=hid (rE.out.below HBP.out hlt2);clear t0 t1;have t0:=HTW.out.cell 0;have t1:=HTW.out.cell 1;by_cases hlt:k < T.nodes.length
    ·obtain⟨x0,hx0⟩:∃ x,T.nodes[k]? = some x:=⟨_,aaD hlt⟩;have hszl:=(HF.out.sums hx0).le;clear hx0 x0;rcases HF.out.way hlt with ⟨hp9,hu,hm9⟩ | ⟨m,x,r,hp9,hlm,hx9,hk9,hu,hn9⟩
     ·obtain⟨D,hD⟩:∃ D,D=(AZ (cZ T.nodes) k).length:=⟨_,rfl⟩;obtain⟨L,hL⟩:∃ L,L=((AZ (cZ T.nodes) k).reverse.map fun (n:Nat)=>(n:Int)):=⟨_,rfl⟩;have HDD:=hid (show (AZ (cZ T.nodes) k).length=D from hD.symm);have Xp:=hid (show ((AZ (cZ T.nodes) k).reverse.map fun (n:Nat)=>(n:Int))=L from hL.symm);have HPP:=hid hp9;have uE:=hid (show L[D - 1]? = some (k:Int) by rw [hL,hD,hu];rfl);have HD1:=hid (show D=1 by rw [hD,hu];rfl);obtain⟨hi1,hi2⟩:=cnt_in (fo_sorted HF.out.fo) hm9;have HI1:=hid hi1;have HI2:=hid hi2;clear hi1 hi2 hm9
      have hDle:D≤100000:=by
       rw [hD]
       have:=UN (cZ T.nodes) ((cZ T.nodes).length+1) (k:Int)
       have h9:(cZ T.nodes).length=T.nodes.length:=qI _ _;unfold AZ;omega
      clear hD hL hu hp9;have HC:=hid (⟨⟨xs,Lx.out.below HBP.out,U_.out⟩⟩:CopyAt wp A B T.nodes T.items);go_wp2_with fail;refine (own_copy HF.out c d HC.out).mono ?_;rintro e wa0⟨h,An,Bn,cn,dn,rfl,hc⟩;have HBA0:=hid (HBP.out.trans (h.mono HBP.out.size));have HEA:=hid (HE2.out.below HBA0.out);have Lf:=hid hc
      replace HO:=hid (HO.out.trans (h.mono HO.out.size))
      clear h hc HC;go_wp2_with fail;have hp:=parent_copy HF.out cn dn Lf.out HEA.out hlt;rw [HPP.out] at hp
      refine hp.mono ?_;rintro e wb0⟨rfl,h⟩;clear hp;have HBB0:=hid (HBA0.out.trans (h.mono HBA0.out.size))
      replace HO:=hid (HO.out.trans (h.mono HO.out.size))
      clear h HEA Lf t0 t1 HTW;have HTW:=hid (rE.out.below HBB0.out hlt2);have t0:=HTW.out.cell 0;have t1:=HTW.out.cell 1;have HC:=hid (⟨⟨xs,Lx.out.below HBB0.out,U_.out⟩⟩:CopyAt wb0 A B T.nodes T.items);go_wp2_with fail;refine (own_copy HF.out c d HC.out).mono ?_;rintro e wa1⟨h,An,Bn,cn,dn,rfl,hc⟩;have HBA1:=hid (HBB0.out.trans (h.mono HBB0.out.size));have HEA:=hid (HE2.out.below HBA1.out);have Lf:=hid hc
      replace HO:=hid (HO.out.trans (h.mono HO.out.size))
      clear h hc HC;go_wp2_with fail;have hp:=path_copy HF.out cn dn Lf.out HEA.out hlt;rw [HDD.out,Xp.out] at hp
      refine hp.mono ?_;rintro e wb1⟨h,Ag,cap,rfl,hpi⟩;have HPI1:=hid hpi;have HQ:=hid (Below.refl wb1.heap.size wb1);clear hpi hp;have HBB1:=hid (HBA1.out.trans (h.mono HBA1.out.size))
      replace HO:=hid (HO.out.trans (h.mono HO.out.size))
      clear h HEA Lf t0 t1 HTW;have HTW:=hid (rE.out.below HBB1.out hlt2);have t0:=HTW.out.cell 0;have t1:=HTW.out.cell 1;have HC:=hid (⟨⟨xs,Lx.out.below HBB1.out,U_.out⟩⟩:CopyAt wb1 A B T.nodes T.items);go_wp2_with fail;refine (own_copy HF.out c d HC.out).mono ?_;rintro e wa2⟨h,An,Bn,cn,dn,rfl,hc⟩;have HBA2:=hid (HBB1.out.trans (h.mono HBB1.out.size));have HEA:=hid (HE2.out.below HBA2.out);have Lf:=hid hc
      replace HO:=hid (HO.out.trans (h.mono HO.out.size))
      replace HQ:=hid (HQ.out.trans (h.mono HQ.out.size))
      clear h hc HC;go_wp2_with fail;have hp:=depth_copy HF.out cn dn Lf.out HEA.out hlt;rw [HDD.out] at hp
      refine hp.mono ?_;rintro e wb2⟨rfl,h⟩;clear hp;have HBB2:=hid (HBA2.out.trans (h.mono HBA2.out.size))
      replace HO:=hid (HO.out.trans (h.mono HO.out.size))
      replace HQ:=hid (HQ.out.trans (h.mono HQ.out.size))
      clear h HEA Lf t0 t1 HTW;have HTW:=hid (rE.out.below HBB2.out hlt2);have t0:=HTW.out.cell 0;have t1:=HTW.out.cell 1;have HC:=hid (⟨⟨xs,Lx.out.below HBB2.out,U_.out⟩⟩:CopyAt wb2 A B T.nodes T.items);go_wp2_with fail;refine (own_copy HF.out c d HC.out).mono ?_;rintro e wa3⟨h,An,Bn,cn,dn,rfl,hc⟩;have HBA3:=hid (HBB2.out.trans (h.mono HBB2.out.size));have HEA:=hid (HE2.out.below HBA3.out);have Lf:=hid hc
      replace HO:=hid (HO.out.trans (h.mono HO.out.size))
      replace HQ:=hid (HQ.out.trans (h.mono HQ.out.size))
      clear h hc HC;go_wp2_with fail;refine (item_copy HF.out cn dn Lf.out HEA.out hlt).mono ?_;rintro e wb3⟨rfl,h⟩;have HBB3:=hid (HBA3.out.trans (h.mono HBA3.out.size))
      replace HO:=hid (HO.out.trans (h.mono HO.out.size))
      replace HQ:=hid (HQ.out.trans (h.mono HQ.out.size))
      clear h HEA Lf t0 t1 HTW;have HTW:=hid (rE.out.below HBB3.out hlt2);have t0:=HTW.out.cell 0;have t1:=HTW.out.cell 1
      have HSI:=hid (show IntsIn wb3 As (szL1 T T.nodes.length) from by
       have h9:=(HS.out.below HO.out).row;unfold cB at h9
       rw [szL1_len] at h9
       exact yI h9 (szL1_len T _).symm)
      have hpi:=HPI1.out.below HQ.out;obtain⟨ace,acf,rfl,_,hpc⟩:=hpi.ex (by have:=(aaE.1 uE.out).1;omega);have p1:=hpc (D - 1) _ uE.out;obtain⟨D1,hD9⟩:∃ D1,D1=D - 1:=⟨_,rfl⟩;rw [← hD9] at p1
      have hDpos:1≤D:=by first | omega|(have:=HD1.out;omega)
      have acg:IntKind.i64.wrap ((D:Int) - 1)=(D1:Int):=by rw [IntWalk.i64_in _ (by omega)];omega
      have zD0:(0:Int)≤(D1:Int):=by omega
      have zD1:(D1:Int) < (D:Int):=by omega
      have zd1:¬ (D:Int) < 1:=by omega
      clear hpc hpi;obtain⟨q,hq⟩:∃ q,q=cntN T.items k:=⟨_,rfl⟩;rw [← hq] at HI2 ⊢
      have HQQ:=hid hq;have hqle:q≤12:=by have:=cnt_le T.items k;omega
      rw [← hq] at HI1
      have hql:=(aaE.1 HI1.out).1;obtain⟨bb,ob,rfl,_,hbc⟩:=(Lx.out.items.below HBB3.out).ex (by omega);have i1:=hbc q _ HI1.out;clear hbc;obtain⟨bs,os,rfl,_,hsc⟩:=HSI.out.ex (by rw [szL1_len];omega);have s1:=hsc k _ (szL1_at T hlt);clear hsc;have hstep:=all_step HI1.out;rw [aaQ] at hstep
      have hall:=allN_le T (q+1);rw [HZN.out.1] at hall
      obtain⟨a,ha⟩:∃ a,a=allN T q:=⟨_,rfl⟩;obtain⟨s,hs⟩:∃ s,s=szN T k:=⟨_,rfl⟩;rw [← ha,← hs] at hstep
      rw [← hs] at s1
      rw [← ha];rw [hstep] at hall
      have HST:=hid hstep;clear hq ha hs hstep hD9;have y0:(0:Int)≤(q:Int):=by omega
      have y1:(q:Int) < (T.items.length:Int):=by omega
      have y2:(0:Int)≤(k:Int):=by omega
      have y3:(k:Int) < (T.nodes.length:Int):=by omega
      have y4:¬ (T.nodes.length:Int)≤-1:=by omega
      have y5:((D:Int) != 1)=false:=by have:=HD1.out;simp;omega
      go_wp2_with fail;exact⟨⟨k+1,by omega,by go_num,by rw [HI2.out];go_num,by rw [HI2.out,HST.out];go_num,HO⟩,by simp [intOf];omega⟩
     ·obtain⟨D,hD⟩:∃ D,D=(AZ (cZ T.nodes) k).length:=⟨_,rfl⟩;obtain⟨L,hL⟩:∃ L,L=((AZ (cZ T.nodes) k).reverse.map fun (n:Nat)=>(n:Int)):=⟨_,rfl⟩;have HDD:=hid (show (AZ (cZ T.nodes) k).length=D from hD.symm);have Xp:=hid (show ((AZ (cZ T.nodes) k).reverse.map fun (n:Nat)=>(n:Int))=L from hL.symm);have HPP:=hid hp9;have uE:=hid (show L[D - 1]? = some (k:Int) by rw [hL,hD];exact path_at hu);have HL2:=hid (show L[D - 2]? = some (m:Int) by rw [hL,hD];exact path_at2 hu);have hD2:2≤D:=by rw [hD,hu];simp
      have HI2:=hid (cnt_out (fo_sorted HF.out.fo) hn9);have HX9:=hid hx9;have HK9:=hid hk9;clear hx9 hk9 hn9
      have hDle:D≤100000:=by
       rw [hD]
       have:=UN (cZ T.nodes) ((cZ T.nodes).length+1) (k:Int)
       have h9:(cZ T.nodes).length=T.nodes.length:=qI _ _;unfold AZ;omega
      clear hD hL hu hp9;have HC:=hid (⟨⟨xs,Lx.out.below HBP.out,U_.out⟩⟩:CopyAt wp A B T.nodes T.items);go_wp2_with fail;refine (own_copy HF.out c d HC.out).mono ?_;rintro e wa0⟨h,An,Bn,cn,dn,rfl,hc⟩;have HBA0:=hid (HBP.out.trans (h.mono HBP.out.size));have HEA:=hid (HE2.out.below HBA0.out);have Lf:=hid hc
      replace HO:=hid (HO.out.trans (h.mono HO.out.size))
      clear h hc HC;go_wp2_with fail;have hp:=parent_copy HF.out cn dn Lf.out HEA.out hlt;rw [HPP.out] at hp
      refine hp.mono ?_;rintro e wb0⟨rfl,h⟩;clear hp;have HBB0:=hid (HBA0.out.trans (h.mono HBA0.out.size))
      replace HO:=hid (HO.out.trans (h.mono HO.out.size))
      clear h HEA Lf t0 t1 HTW;have HTW:=hid (rE.out.below HBB0.out hlt2);have t0:=HTW.out.cell 0;have t1:=HTW.out.cell 1;have HC:=hid (⟨⟨xs,Lx.out.below HBB0.out,U_.out⟩⟩:CopyAt wb0 A B T.nodes T.items);go_wp2_with fail;refine (own_copy HF.out c d HC.out).mono ?_;rintro e wa1⟨h,An,Bn,cn,dn,rfl,hc⟩;have HBA1:=hid (HBB0.out.trans (h.mono HBB0.out.size));have HEA:=hid (HE2.out.below HBA1.out);have Lf:=hid hc
      replace HO:=hid (HO.out.trans (h.mono HO.out.size))
      clear h hc HC;go_wp2_with fail;have hp:=path_copy HF.out cn dn Lf.out HEA.out hlt;rw [HDD.out,Xp.out] at hp
      refine hp.mono ?_;rintro e wb1⟨h,Ag,cap,rfl,hpi⟩;have HPI1:=hid hpi;have HQ:=hid (Below.refl wb1.heap.size wb1);clear hpi hp;have HBB1:=hid (HBA1.out.trans (h.mono HBA1.out.size))
      replace HO:=hid (HO.out.trans (h.mono HO.out.size))
      clear h HEA Lf t0 t1 HTW;have HTW:=hid (rE.out.below HBB1.out hlt2);have t0:=HTW.out.cell 0;have t1:=HTW.out.cell 1;have HC:=hid (⟨⟨xs,Lx.out.below HBB1.out,U_.out⟩⟩:CopyAt wb1 A B T.nodes T.items);go_wp2_with fail;refine (own_copy HF.out c d HC.out).mono ?_;rintro e wa2⟨h,An,Bn,cn,dn,rfl,hc⟩;have HBA2:=hid (HBB1.out.trans (h.mono HBB1.out.size));have HEA:=hid (HE2.out.below HBA2.out);have Lf:=hid hc
      replace HO:=hid (HO.out.trans (h.mono HO.out.size))
      replace HQ:=hid (HQ.out.trans (h.mono HQ.out.size))
      clear h hc HC;go_wp2_with fail;have hp:=depth_copy HF.out cn dn Lf.out HEA.out hlt;rw [HDD.out] at hp
      refine hp.mono ?_;rintro e wb2⟨rfl,h⟩;clear hp;have HBB2:=hid (HBA2.out.trans (h.mono HBA2.out.size))
      replace HO:=hid (HO.out.trans (h.mono HO.out.size))
      replace HQ:=hid (HQ.out.trans (h.mono HQ.out.size))
      clear h HEA Lf t0 t1 HTW;have HTW:=hid (rE.out.below HBB2.out hlt2);have t0:=HTW.out.cell 0;have t1:=HTW.out.cell 1;have HC:=hid (⟨⟨xs,Lx.out.below HBB2.out,U_.out⟩⟩:CopyAt wb2 A B T.nodes T.items);go_wp2_with fail;refine (own_copy HF.out c d HC.out).mono ?_;rintro e wa3⟨h,An,Bn,cn,dn,rfl,hc⟩;have HBA3:=hid (HBB2.out.trans (h.mono HBB2.out.size));have HEA:=hid (HE2.out.below HBA3.out);have Lf:=hid hc
      replace HO:=hid (HO.out.trans (h.mono HO.out.size))
      replace HQ:=hid (HQ.out.trans (h.mono HQ.out.size))
      clear h hc HC;go_wp2_with fail;refine (item_copy HF.out cn dn Lf.out HEA.out hlt).mono ?_;rintro e wb3⟨rfl,h⟩;have HBB3:=hid (HBA3.out.trans (h.mono HBA3.out.size))
      replace HO:=hid (HO.out.trans (h.mono HO.out.size))
      replace HQ:=hid (HQ.out.trans (h.mono HQ.out.size))
      clear h HEA Lf t0 t1 HTW;have HTW:=hid (rE.out.below HBB3.out hlt2);have t0:=HTW.out.cell 0;have t1:=HTW.out.cell 1
      have HSI:=hid (show IntsIn wb3 As (szL1 T T.nodes.length) from by
       have h9:=(HS.out.below HO.out).row;unfold cB at h9
       rw [szL1_len] at h9
       exact yI h9 (szL1_len T _).symm)
      have hpi:=HPI1.out.below HQ.out;obtain⟨ace,acf,rfl,_,hpc⟩:=hpi.ex (by have:=(aaE.1 uE.out).1;omega);have p1:=hpc (D - 1) _ uE.out;obtain⟨D1,hD9⟩:∃ D1,D1=D - 1:=⟨_,rfl⟩;rw [← hD9] at p1
      have hDpos:1≤D:=by first | omega|(have:=HD1.out;omega)
      have acg:IntKind.i64.wrap ((D:Int) - 1)=(D1:Int):=by rw [IntWalk.i64_in _ (by omega)];omega
      have zD0:(0:Int)≤(D1:Int):=by omega
      have zD1:(D1:Int) < (D:Int):=by omega
      have zd1:¬ (D:Int) < 1:=by omega
      have p2:=hpc (D - 2) _ HL2.out;obtain⟨D2,hD8⟩:∃ D2,D2=D - 2:=⟨_,rfl⟩;rw [← hD8] at p2
      have zE:IntKind.i64.wrap ((D:Int) - 2)=(D2:Int):=by rw [IntWalk.i64_in _ (by omega)];omega
      have zE0:(0:Int)≤(D2:Int):=by omega
      have zE1:(D2:Int) < (D:Int):=by omega
      have zd2:¬ (D:Int) < 2:=by omega
      clear hD8;clear hpc hpi;obtain⟨q,hq⟩:∃ q,q=cntN T.items k:=⟨_,rfl⟩;rw [← hq] at HI2 ⊢
      have HQQ:=hid hq;have hqle:q≤12:=by have:=cnt_le T.items k;omega
      obtain⟨a,ha⟩:∃ a,a=allN T q:=⟨_,rfl⟩;rw [← ha];have HAA:=hid ha;clear hq ha hD9;obtain⟨xm,hxm⟩:∃ xm,xs[m]? = some xm:=jD (by rw [HXL.out];exact (aaE.1 HX9.out).1);have hml:m < T.nodes.length:=(aaE.1 HX9.out).1;have hxe9:x=xm.1:=by have h9:=gP hxm;rw [U_.out,HX9.out] at h9;exact aaP h9
      have hKI:(k:Int) ∈ xm.1.kids:=by rw [← hxe9];exact HK9.out
      obtain⟨b,o,hA,yc⟩:=Lx.out.nodes (by rw [HXL.out];omega);have c3:=(HBB3.out.cell (p:=⟨b,o+m * 5+3,none⟩) yc.lt).trans (yc.c3 m xm hxm);obtain⟨Ka,ca,hxe,hxl,hxk⟩:=yc.kid hxm;rw [hxe] at c3
      have tK:=hid (hxk.below HBB3.out);clear yc hxe hxk hxm hxe9;obtain⟨ks,hks⟩:∃ ks,ks=xm.1.kids:=⟨_,rfl⟩;rw [← hks] at c3 hxl tK hKI
      clear hks;obtain⟨nk,hnk⟩:∃ nk,nk=ks.length:=⟨_,rfl⟩;rw [← hnk] at c3 hxl
      have nu:=hid hnk;have HKI:=hid hKI;clear hnk hKI;rw [hA] at t0
      have vK:=hid hA;clear hA;have y0:(0:Int)≤(m:Int):=by omega
      have y1:(m:Int) < (T.nodes.length:Int):=by omega
      have y2:¬ (m:Int) < -1:=by omega
      have y3:¬ (T.nodes.length:Int)≤(m:Int):=by omega
      have y4:¬ (m:Int) < 0:=by omega
      have y5:¬ (m:Int)≤(k:Int):=by omega
      go_wp2_with fail;go_loopw [23,24] (fun fd kk wq=>∃ (j:Nat) (fb:Bool),j≤nk∧kk=.int .i64 j∧fd=.bool fb∧Hid (fb=decide ((k:Int) ∈ ks.take j))∧wq=wb3) (fun _ kk _=>nk - (intOf kk).toNat)
      case atStart=>exact⟨0,false,aaL _,rfl,rfl,hid rfl,rfl⟩
      case round =>
       obtain⟨j,fb,hj,rfl,rfl,HFB,rfl⟩:=hrel;by_cases hjl:j < nk
       ·obtain⟨z,hz⟩:∃ z,ks[j]? = some z:=⟨_,aaD (by rw [← nu.out];exact hjl)⟩;obtain⟨bk,ok,rfl,_,hkc⟩:=tK.out.ex (by rw [← nu.out];omega);have k0:=hkc j _ hz;clear hkc
        have uM:=hid (show decide ((k:Int) ∈ ks.take (j+1))=(decide ((k:Int) ∈ ks.take j) || (z == (k:Int))) by
         rw [List.take_add_one,hz]
         show decide ((k:Int) ∈ ks.take j ++ [z])=_
         rw [aaI];simp only [List.mem_append,List.mem_singleton,decide_eq_true_eq,Bool.or_eq_true,beq_iff_eq];exact⟨fun h=>h.imp id Eq.symm,fun h=>h.imp id Eq.symm⟩)
        clear hz;have x0:(0:Int)≤(j:Int):=by omega
        have x1:(j:Int) < (nk:Int):=by omega
        cases fb
        case true =>
         go_wp2_with fail;exact⟨⟨j+1,true,by omega,by go_num,rfl,hid (by rw [uM.out,← HFB.out];rfl),trivial⟩,by simp [intOf];omega⟩
        case false =>
         cases he:(z == (k:Int))
         case true =>
          have HE9:=hid he;go_wp2_with fail;exact⟨⟨j+1,true,by omega,by go_num,rfl,hid (by rw [uM.out,HE9.out,Bool.or_true]),trivial⟩,by simp [intOf];omega⟩
         case false =>
          have HE9:=hid he;go_wp2_with fail;exact⟨⟨j+1,false,by omega,by go_num,rfl,hid (by rw [uM.out,HE9.out,← HFB.out];rfl),trivial⟩,by simp [intOf];omega⟩
       ·obtain rfl:j=nk:=by omega
        have hfb:fb=true:=by rw [HFB.out,aaN (by rw [nu.out];exact aaJ _)];exact aaU HKI.out
        subst hfb;clear HFB;go_wp2_with fail;exact⟨⟨k+1,by omega,by go_num,by rw [HI2.out],by rw [HI2.out,HAA.out],HO⟩,by simp [intOf];omega⟩
    ·obtain rfl:k=T.nodes.length:=by omega
     rw [HZN.out.2,HZN.out.1];have HEP:=hid (HE2.out.below HBP.out);have EZ:=hid (HB2.out.trans (HBP.out.mono HB2.out.size));go_wp2_with (go_at_call 16;refine (rV _ HEP.out).mono ?_;rintro e w9⟨rfl,h9⟩;have HL9:=hid (btr EZ.out h9);clear h9)
     go_ret;exact⟨by first | rfl | simp,HL9.out⟩
end Go.Proofs.YthepmkjggfijoaaGreatDoor
namespace Go.Proofs.YthepmkjggfijoaaGreatDoor
open Go.ChangeShapes Go.WideShapes Go.ChangeAt Go.RowKit Go.MapKept Go.ChangeMaps Mist
theorem sums_lifted (os:Os)(started:os.Started)(H:Type)(enc:TypeId × Value→H) :
  ReturnsInHanded {} Tryz.checked os 12 .any (fun w args=>(Rows.treeSumsSpec.pre enc Tryz.prog Tryz.f12 [] false w args∧laidMetH Tryz.prog Rows.treeSumsRow.laid w)∧sizedMet enc Tryz.prog Tryz.f12 (OpenSpec.ofChange Rows.treeSumsSpec) false w args)
   (Rows.treeSumsSpec.post enc Tryz.prog Tryz.f12 false true false false):=by
 refine returnsInHanded_of_change_and (C:=Tryz.checked) (X:=fun w _=>laidMetH Tryz.prog Rows.treeSumsRow.laid w) (fun _ _ _ hh h=>h.of_heap hh) own_knob started (by kernel_rfl) Tryz.func12
  (ChangeSpec.witness_shaped (enc:=enc) (C:=Tryz.checked) (os:=os) (X:=fun w _=>laidMetH Tryz.prog Rows.treeSumsRow.laid w) false (World.laidAll Tryz.prog os Rows.treeSumsRow.laid) #[.slice none 0 0] 8 (World.laidAll_os _ _ _)
   (World.shaped_of_ZipB (by kernel_rfl) (by kernel_rfl)) (by kernel_rfl) (by kernel_rfl) (by kernel_rfl)
   (by rw [MakeChecks.laidMetH_plain _ _ _ (by kernel_rfl)];exact laidMet_laidAll _ (by kernel_rfl) (by kernel_rfl))) ?_
 intro W base args ds gs before hval0 hW _ hsz hL _;rw [MakeChecks.laidMetH_plain _ _ _ (by kernel_rfl)] at hL
 have hE:Env W:=env_of_laid hL (by simp [Rows.treeSumsRow]);have hval:∀ (j:Nat) t v,Tryz.f12.params[j]? = some t→args[j]? = some v→Value.okWide Tryz.prog W .any base t v:=hval0;have hW':=hW;obtain⟨p,q,hA0,hV,rfl,_,_⟩:=hW;have hA:DataW.TrodAll enc Tryz.prog W 0 (fun _=>true) true Tryz.f12.params.toList args.toList ds p:=hA0;rw [Tryz.params12] at hA hval
 obtain⟨v0,d0,rfl,rfl,h0⟩:=trodAll_one hA;obtain⟨rfl,rfl⟩:=trodVars_none hV;obtain⟨l0,hv0,hw0⟩:=seed_of_trod (j:=0) (hval 0 42 v0 rfl rfl) h0 hsz (by rw [Tryz.params12];rfl) rfl;have hP:Pow W:=pow_of_laid hL (by simp [Rows.treeSumsRow]);have fin:=sums_law l0 v0 W hE hP hv0.seed;refine fin.mono fun e W' ⟨he,hw⟩=>?_
 subst he;exact⟨_,rfl,post_true (t:=4) laid_out (by kernel_rfl) rfl (by kernel_rfl) bool_row rfl hW' hw⟩
theorem sums_said:Rows.TreeSumsSaid :=
 OpenClaim.holds_of_wide 12 Tryz.f12 rfl rfl rfl rfl rfl rfl rfl ⟨rfl,rfl,rfl,rfl,rfl⟩ rfl rfl rfl rfl rfl (by kernel_rfl) Tryz.func12 (by kernel_rfl)
  (of_decide_eq_true (by kernel_rfl)) (by unfold Func.isWrapper;first|(rw [if_pos (by decide +kernel)];kernel_rfl)|(rw [if_neg (by decide +kernel)];exact⟨rfl,rfl⟩))
  (fun os started H enc _=>sums_lifted os started H enc)
theorem sums_holds:Rows.TreeSumsCardSaid :=
 Claim7.holds_tied_plain_at .later [] [.data, .data, .data, .sentinel, .sentinel, .listed, .data] true (true, "930e7ddc3c177b6ac6c34496cd3f8d07608127284058b89a41b68245be8bebb1") true sums_said (fun _ h => by cases h) (by kernel_rfl) (fun _ h => by cases h) treeSums_row_tie rfl ⟨rfl, rfl⟩ (by kernel_rfl) rfl
  (fun f fn hf hfn=>by
   obtain rfl : f = 12 := aaP ((show Tryz.prog.funcNamed "mist/mistlaw03.TreeSums" = some 12 by kernel_rfl).symm.trans hf) |>.symm
   obtain rfl:fn=Tryz.f12:=(aaP (Tryz.func12.symm.trans hfn)).symm
   exact⟨by kernel_rfl,fun j t ht=>by
    rw [Tryz.params12] at ht
    have hm:t ∈ [42]:=by simpa using Array.mem_of_getElem? ht
    have hall:([42].all fun u=>!Tryz.prog.wantsStandIn u)=true:=by kernel_rfl
    exact (show Tryz.prog.wantsStandIn t=false by simpa using aaR.1 hall t hm)⟩)
  (by kernel_rfl)
end Go.Proofs.YthepmkjggfijoaaGreatDoor
