/-
  PARTS of the proof: RM0, RS, RK.
-/
import Derived.Deep.QuietTactic
import Derived.Test.YthepmkjggfijoaaGreatDoorB21
import Derived.Test.YthepmkjggfijoaaGreatDoorC35
import Derived.Test.YthepmkjggfijoaaGreatDoorC34
import Derived.Test.YthepmkjggfijoaaGreatDoorB04
set_option linter.all false
set_option maxRecDepth 100000
set_option maxHeartbeats 2000000
open Go.Lib (hid)
namespace Go.Proofs.YthepmkjggfijoaaGreatDoor
open Go.RowKit Mist
attribute [local go_sem] ofL_extract ofL_size ofL_get ofL_bytes ofL_append
theorem blk_topR {W:World}{cs:Array Value}{T:TypeId}{k:Nat}(hk:W.heap.size=k):Blk (W.alloc (.cells cs T)) k T cs:=by subst hk;exact Blk.new W T cs
theorem ints_reads {w:World}{A:Option Addr}{ks:List Int}(h:IntsIn w A ks):Reads w w.heap.size 1 A ks.length (intCells ks):=by
 refine⟨by rw [intCells_len,Nat.mul_one],fun h0=>?_⟩
 obtain⟨b,o,rfl,hl,hc⟩:=h.ex h0
 refine⟨⟨b,o,none⟩,rfl,hl,fun j u hu=>?_⟩
 rw [add_none]
 have hj:j < ks.length:=by have:=(List.getElem?_eq_some_iff.1 hu).1;rwa [intCells_len] at this
 have he:u=.int .i64 ks[j]:=by
  have h9:(intCells ks)[j]? = some (.int .i64 ks[j]):=by simp [intCells,hj]
  rw [h9] at hu;exact (Option.some.inj hu).symm
 rw [he]
 exact hc j _ (List.getElem?_eq_getElem hj)
theorem moved_any (kd:Nat)(tx:Bs)(nn at_ by_:Int)(A:Option Addr)(c nk:Nat)(ks:List Int)(w:World)(hnk:nk=ks.length)(hI:IntsIn w A ks)(hl:nk≤1000000)(hr:∀ k ∈ ks,-9223372036854775808≤k+by_∧k+by_≤9223372036854775807) :
  Calls Tryz.prog 60 #[.agg #[.int .u8 kd,.string (ofL tx),.int .i64 nn,.slice A nk c,.int .i64 at_],.int .i64 by_] w fun e w'=>Below w.heap.size w w'∧∃ kv,e=.returned (.agg #[.int .u8 kd,.string (ofL tx),.int .i64 nn,kv,.int .i64 at_])∧w'.ownsRow (w.heap.size+2) 3 1 kv nk (intCells (ks.map (·+by_))):=by
 have HI:=hid hI;clear hI
 have HNK:=hid hnk;clear hnk
 have HR:=hid hr;clear hr
 obtain⟨KS,hKS⟩:∃ KS,KS=ks.map (·+by_):=⟨_,rfl⟩
 rw [← hKS]
 have HKL:=hid (show KS.length=nk by rw [hKS,List.length_map,HNK.out])
 have HKS:=hid hKS;clear hKS
 obtain⟨i0,hi0,hz0,hz1,hz2⟩:=info_parts int_info
 go_enter Tryz.func60,Tryz.ntmps60
 go_wp2_with fail
 have HB0:=hid (((Blk.new w 50 #[.int .u8 kd,.string (ofL tx),.int .i64 nn,.slice A nk c,.int .i64 at_]).alloc (.cells #[.int .u8 0,.string ⟨#[]⟩,.int .i64 0,.slice none 0 0,.int .i64 0] 50)).alloc (.cells #[] 3))
 have HZ0:=hid ((blk_topR (W:=w.alloc (.cells #[.int .u8 kd,.string (ofL tx),.int .i64 nn,.slice A nk c,.int .i64 at_] 50)) (T:=50) (cs:=#[.int .u8 0,.string ⟨#[]⟩,.int .i64 0,.slice none 0 0,.int .i64 0]) (k:=w.heap.size+1) (by simp)).alloc (.cells #[] 3))
 have HL0:=hid (balloc (balloc (balloc (Below.refl w.heap.size w) (Nat.le_refl _) (o:=.cells #[.int .u8 kd,.string (ofL tx),.int .i64 nn,.slice A nk c,.int .i64 at_] 50)) (by simp) (o:=.cells #[.int .u8 0,.string ⟨#[]⟩,.int .i64 0,.slice none 0 0,.int .i64 0] 50)) (by simp;omega) (o:=.cells #[] 3))
 have HO0:=hid (World.ownsRow_made (base:=w.heap.size+2) (e:=3) (size:=1) ((w.alloc (.cells #[.int .u8 kd,.string (ofL tx),.int .i64 nn,.slice A nk c,.int .i64 at_] 50)).alloc (.cells #[.int .u8 0,.string ⟨#[]⟩,.int .i64 0,.slice none 0 0,.int .i64 0] 50)) #[] 0 (by simp) (by simp [maxLen]) rfl)
 go_loopw [5,6] (fun v i wr=>∃ j:Nat,j≤nk∧i=.int .i64 j∧Hid (wr.ownsRow (w.heap.size+2) 3 1 v j (intCells (KS.take j)))∧Hid (Blk wr w.heap.size 50 #[.int .u8 kd,.string (ofL tx),.int .i64 nn,.slice A nk c,.int .i64 at_])∧Hid (Blk wr (w.heap.size+1) 50 #[.int .u8 0,.string ⟨#[]⟩,.int .i64 0,.slice none 0 0,.int .i64 0])∧Hid (Below w.heap.size w wr)) (fun _ i _=>nk - (intOf i).toNat)
 case atStart=>exact⟨0,Nat.zero_le _,rfl,hid (by simpa [intCells] using HO0.out),HB0,HZ0,HL0⟩
 case round =>
  obtain⟨j,hj,rfl,HO,HB,HZ,HL⟩:=hrel
  clear HB0 HZ0 HL0 HO0
  have q0:=HB.out.cell 0
  have q1:=HB.out.cell 1
  have q2:=HB.out.cell 2
  have q3:=HB.out.cell 3
  have q4:=HB.out.cell 4
  obtain⟨Av,cv,rfl⟩:=own_form HO.out
  by_cases hlt:j < nk
  ·have i3:decide (j < nk)=true:=decide_eq_true hlt
   obtain⟨kj,hkj⟩:∃ kj,ks[j]? = some kj:=⟨_,List.getElem?_eq_getElem (by rw [← HNK.out];exact hlt)⟩
   obtain⟨b,o,rfl,hbl,hc⟩:=HI.out.ex (by rw [← HNK.out];omega)
   have cj:=(HL.out.cell (p:=⟨b,o+j,none⟩) (by exact hbl)).trans (hc j kj hkj)
   have hrj:=HR.out kj (List.mem_of_getElem? hkj)
   have HTK:=hid (show intCells (KS.take (j+1))=intCells (KS.take j) ++ [.int .i64 (kj+by_)] by rw [List.take_add_one,HKS.out,List.getElem?_map,hkj];simp [intCells])
   have wv:IntKind.i64.wrap (kj+by_)=kj+by_:=IntWalk.i64_in _ (by omega)
   have z0:(0:Int)≤(j:Int):=by omega
   have z1:(j:Int) < (nk:Int):=by omega
   clear hc hkj
   go_wp2_with (at_builtin;refine wpList_append_own _ rfl (.tmp 15) (.tmp 23) 24 rfl (w.heap.size+2) 3 i0 _ 1 8 Tryz.underlying24 hi0 hz0 hz1 hz2 rfl (by decide) _ j (intCells (KS.take j)) rfl (HO.out.alloc _) ⟨wr.heap.size,0,none⟩ 1 1 [.int .i64 (kj+by_)] rfl rfl ?c1 ?c2 ?c3 ?c4 ?c5 ?_)
   case c1=>exact World.news_of_block (cs:=#[.int .i64 (kj+by_)]) (t:=3) (fr:=(0,0)) (heap_alloc_new wr _)
   case c2=>intro u hu;rcases List.mem_singleton.1 hu with rfl;rfl
   case c3=>simp only [maxLen];omega
   case c4=>omega
   case c5=>simp;have:=HL.out.size;have:=HZ.out.lt;omega
   intro v2 w3 hown2 hg2 _
   have hlz:=HZ.out.lt
   have hb2:Below w.heap.size w w3:=(HL.out.alloc HL.out.size _).grown hg2 (by simp;omega) (fun k hk=>by have:=(HO.out.lt k hk).1;omega)
   have hB2:=(HB.out.alloc (.cells #[.int .i64 (kj+by_)] 3)).grown hg2 (fun e=>by have:=(HO.out.lt _ e.symm).1;omega)
   have hZ2:=(HZ.out.alloc (.cells #[.int .i64 (kj+by_)] 3)).grown hg2 (fun e=>by have:=(HO.out.lt _ e.symm).1;omega)
   rw [← HTK.out] at hown2
   have HO2:=hid hown2;clear hown2
   go_wp2
   exact⟨⟨j+1,by omega,by go_num,HO2,hid hB2,hid hZ2,hid hb2⟩,by simp [intOf];omega⟩
  ·have i3:decide (j < nk)=false:=decide_eq_false hlt
   have hjn:j=nk:=by omega
   subst hjn
   have HTK:=hid (show KS.take j=KS from List.take_of_length_le (by rw [HKL.out];exact Nat.le_refl _))
   rw [HTK.out] at HO
   have q5:=HB.out.frozen 3
   have hbl:=HB.out.lt
   have hzl:=HZ.out.lt
   have HB2:=HB.out.set_ 3 (.slice Av j cv)
   have HZ2:=HZ.out.far (p:=⟨w.heap.size,3,none⟩) (by simp) (.slice Av j cv)
   have HO2:=own_set (i:=3) (b:=w.heap.size) (u:=.slice Av j cv) HO.out (by omega)
   have HL2:=bset (b:=w.heap.size) (i:=3) (u:=.slice Av j cv) HL.out (Nat.le_refl _)
   clear q0 q1 q2 q3 q4
   have q3:=HB.out.cell 3
   go_upto_region 7 with (fail)
   have HQ2:=hid HO2;clear HO2
   have HM2:=hid HL2;clear HL2
   generalize wr.setCell ⟨w.heap.size,3,none⟩ (.slice Av j cv)=w6 at HB2 HZ2 HQ2 HM2 ⊢
   clear q3 q5 hbl hzl
   have q0:=HB2.cell 0
   have q1:=HB2.cell 1
   have q2:=HB2.cell 2
   have q3:=HB2.cell 3
   have q4:=HB2.cell 4
   have p0:=HZ2.cell 0
   have p1:=HZ2.cell 1
   have p2:=HZ2.cell 2
   have p3:=HZ2.cell 3
   have p4:=HZ2.cell 4
   have r0:=HZ2.frozen 0
   have r1:=HZ2.frozen 1
   have r2:=HZ2.frozen 2
   have r3:=HZ2.frozen 3
   have r4:=HZ2.frozen 4
   have hzl:=HZ2.lt
   go_wp2_with fail
   have hz:=((((HZ2.set_ 0 (.int .u8 kd)).set_ 1 (.string (ofL tx))).set_ 2 (.int .i64 nn)).set_ 3 (.slice Av j cv)).set_ 4 (.int .i64 at_)
   have z0:=hz.cell 0
   have z1:=hz.cell 1
   have z2:=hz.cell 2
   have z3:=hz.cell 3
   have z4:=hz.cell 4
   refine bodyPost_ret (v:=.agg #[.int .u8 kd,.string (ofL tx),.int .i64 nn,.slice Av j cv,.int .i64 at_]) (by simp [results,Tryz.f60,go_sem,z0,z1,z2,z3,z4]) rfl ⟨?_,_,rfl,?_⟩
   ·repeat (first|(with_reducible exact HM2.out)|(with_reducible refine bset ?_ ?_) | omega)
   ·repeat (first|(with_reducible exact HQ2.out)|(with_reducible refine own_set ?_ ?_) | omega)
end Go.Proofs.YthepmkjggfijoaaGreatDoor
namespace Go.Proofs.YthepmkjggfijoaaGreatDoor
open Go.RowKit Mist
attribute [local go_sem] ofL_extract ofL_size ofL_get ofL_bytes ofL_append
theorem intCells_get {sz:List Int}{i:Nat}(h:i < sz.length):(intCells sz)[i]? = some (.int .i64 (sz.getD i 0)):=by
 simp [intCells,List.getD_eq_getElem?_getD,h]
theorem own_cell {w:World}{base n:Nat}{v:Value}{sz:List Int}(h:w.ownsRow base 3 1 v n (intCells sz))(hn:sz.length=n)(h0:0 < n):∃ g cap,v=.slice (some ⟨g,0,none⟩) n cap∧base≤g∧g < w.heap.size∧∀ i,i < n→w.cell? ⟨g,i,none⟩=some (.int .i64 (sz.getD i 0)):=by
 obtain⟨g,cap,rfl,hb,hlt⟩:=h.form h0
 refine⟨g,cap,rfl,hb,hlt,fun i hi=>?_⟩
 have:=h.cells (g:=g) rfl i _ (intCells_get (by omega))
 rwa [add_none,Nat.zero_add] at this
theorem sizes_any (A B:Option Addr)(c m d:Nat)(xs:List NV)(its:List Int)(w:World)(hT:TAt w A B xs its)(hn:xs.length≤10000) :
  Calls Tryz.prog 68 #[.agg #[.slice A xs.length c,.slice B m d]] w fun e w'=>Below w.heap.size w w'∧((sizesTo (nds xs) xs.length=none∧e=.returned (.slice none 0 0))∨∃ sz v,sizesTo (nds xs) xs.length=some sz∧e=.returned v∧w'.ownsRow w.heap.size 3 1 v xs.length (intCells sz)):=by
 obtain⟨n,hnn⟩:∃ n,n=xs.length:=⟨_,rfl⟩
 rw [← hnn] at hn ⊢
 have HNL:=hid (show (nds xs).length=n by rw [nds_len,hnn])
 have HNN:=hid hnn;clear hnn
 have HT:=hid hT;clear hT
 have HNO:=hid (show ∀ k,k≤n→sizesTo (nds xs) k=none→sizesTo (nds xs) n=none from fun k hk h=>by
  have h9:=sizesT_none (T:=⟨nds xs,its⟩) (k:=k) (by show k≤(nds xs).length;rw [HNL.out];exact hk) h
  rw [← sizesTo_all] at h9
  rw [← HNL.out];exact h9)
 obtain⟨i0,hi0,hz0,hz1,hz2⟩:=info_parts int_info
 go_enter Tryz.func68,Tryz.ntmps68
 go_wp2_with fail
 have HB0:=hid ((Blk.new w 26 #[.slice A n c,.slice B m d]).alloc (.cells #[] 3))
 have HL0:=hid (balloc (balloc (Below.refl w.heap.size w) (Nat.le_refl _) (o:=.cells #[.slice A n c,.slice B m d] 26)) (by simp) (o:=.cells #[] 3))
 have HO0:=hid (World.ownsRow_made (base:=w.heap.size+1) (e:=3) (size:=1) (w.alloc (.cells #[.slice A n c,.slice B m d] 26)) #[] 0 (by simp) (by simp [maxLen]) rfl)
 go_loopw [3,4] (fun v i wr=>∃ (k:Nat) (sz:List Int),k≤n∧i=.int .i64 k∧Hid (sizesTo (nds xs) k=some sz)∧Hid (wr.ownsRow (w.heap.size+1) 3 1 v k (intCells sz))∧Hid (Blk wr w.heap.size 26 #[.slice A n c,.slice B m d])∧Hid (Below w.heap.size w wr)) (fun _ i _=>n - (intOf i).toNat)
 case atStart=>exact⟨0,[],Nat.zero_le _,rfl,hid rfl,hid (by simpa [intCells] using HO0.out),HB0,HL0⟩
 case round =>
  obtain⟨wo,rfl⟩:∃ wo:World,wo=wr:=⟨_,rfl⟩
  obtain⟨k,sz,hk,rfl,HS,HO,HB,HL⟩:=hrel
  clear HB0 HL0 HO0
  have t0:=HB.out.cell 0
  have t1:=HB.out.cell 1
  obtain⟨Av,cv,rfl⟩:=own_form HO.out
  by_cases hkn:k < n
  ·have i3:decide (k < n)=true:=decide_eq_true hkn
   obtain⟨b,o,rfl,hN⟩:=HT.out.nodes (by rw [← HNN.out];omega)
   obtain⟨x,hx⟩:∃ x,xs[k]? = some x:=xs_at (by rw [← HNN.out];exact hkn)
   obtain⟨K,ck,hxe,hkl,hxk⟩:=hN.kid hx
   have c3:=(HL.out.cell (p:=⟨b,o+k * 5+3,none⟩) hN.lt).trans (hN.c3 k x hx)
   rw [hxe] at c3
   have HSB:=hid (sizesTo_bound (by rw [HNL.out];exact hk) HS.out)
   have HSU:=hid (sizesTo_succ (nds_get hx) HS.out)
   rw [HSB.out.1] at HSU
   clear hN hxe hx
   obtain⟨ks,hks⟩:∃ q,q=x.1.kids:=⟨_,rfl⟩
   rw [← hks] at c3 hkl hxk HSU
   obtain⟨nk,hnk⟩:∃ q,q=ks.length:=⟨_,rfl⟩
   rw [← hnk] at c3 hkl
   have HNK:=hid hnk;clear hnk
   have HXK:=hid hxk;clear hxk
   clear hks
   have z0:(0:Int)≤(k:Int):=by omega
   have z1:(k:Int) < (n:Int):=by omega
   go_wp2_with fail
   go_loopw [6,7] (fun a i wr=>∃ (j:Nat) (at_:Int),wr=wo∧j≤nk∧i=.int .i64 ((j:Int) - 1)∧a=.int .i64 at_∧-1≤at_∧at_≤(k:Int) - 1∧Hid (backOver sz (ks.drop j) ((k:Int) - 1)=some at_)) (fun _ i _=>(intOf i+1).toNat)
   case atStart=>exact⟨nk,(k:Int) - 1,rfl,Nat.le_refl _,rfl,rfl,by omega,by omega,hid (by rw [List.drop_of_length_le (by rw [← HNK.out];exact Nat.le_refl _)];rfl)⟩
   case round =>
    obtain⟨j,at_,rfl,hj,rfl,rfl,ha,hak,HBK⟩:=hrel
    by_cases hj0:0 < j
    ·obtain⟨j,rfl⟩:∃ q,j=q+1:=⟨j - 1,by omega⟩
     obtain⟨b2,o2,rfl,hbl,hc⟩:=HXK.out.ex (by rw [← HNK.out];omega)
     obtain⟨kj,hkj⟩:∃ kj,ks[j]? = some kj:=⟨_,List.getElem?_eq_getElem (by rw [← HNK.out];omega)⟩
     have cj:=(HL.out.cell (p:=⟨b2,o2+j,none⟩) (by exact hbl)).trans (hc j kj hkj)
     have HST:=hid (backOver_step (out:=sz) (b:=(k:Int) - 1) hkj)
     rw [HBK.out] at HST
     clear hc hkj
     have e1:((j+1:Nat):Int) - 1=(j:Int):=by omega
     rw [e1]
     have y0:(0:Int)≤(j:Int):=by omega
     have y1:(j:Int) < (nk:Int):=by omega
     by_cases hq:kj=at_
     ·by_cases h0:at_ < 0
      ·have d1:(kj != at_)=false:=by simp [hq]
       have d2:decide (at_ < 0)=true:=decide_eq_true h0
       have HN:=hid (show sizesTo (nds xs) n=none from HNO.out (k+1) (by omega) (by
        rw [HSU.out,backOver_none (j:=j) (by rw [HST.out];show (if kj ≠ at_∨at_ < 0 then none else _)=none;rw [if_pos (Or.inr h0)])];rfl))
       clear hq h0
       go_wp2_with fail
       go_ret
       exact⟨HL.out,.inl ⟨HN.out,rfl⟩⟩
      ·obtain⟨an,rfl⟩:∃ q:Nat,at_=(q:Int):=⟨at_.toNat,by omega⟩
       have han:an < k:=by omega
       obtain⟨g,cap,hv,_,hgl,hcg⟩:=own_cell HO.out HSB.out.1 (by omega)
       injection hv with hv1 _ hv3
       subst hv1
       subst hv3
       have cg:=hcg an han
       have hbd:=HSB.out.2 an han
       have HST2:=hid (show backOver sz (ks.drop j) ((k:Int) - 1)=some ((an:Int) - sz.getD an 0) by
        rw [HST.out]
        show (if kj ≠ (an:Int)∨(an:Int) < 0 then none else some ((an:Int) - sz.getD ((an:Int)).toNat 0))=_
        rw [if_neg (by rw [hq];simp),Int.toNat_natCast])
       have d1:(kj != (an:Int))=false:=by simp [hq]
       have d2:decide ((an:Int) < 0)=false:=decide_eq_false (by omega)
       obtain⟨sa,hsa⟩:∃ q,q=sz.getD an 0:=⟨_,rfl⟩
       rw [← hsa] at cg hbd HST2
       clear hq hsa h0 hcg
       have x0:(0:Int)≤(an:Int):=by omega
       have x1:(an:Int) < (k:Int):=by omega
       go_wp2_with fail
       exact⟨⟨j,(an:Int) - sa,by first | rfl | trivial,by omega,by go_num,by go_num,by omega,by omega,HST2⟩,by simp [intOf]⟩
     ·have d1:(kj != at_)=true:=by simp [hq]
      have HN:=hid (show sizesTo (nds xs) n=none from HNO.out (k+1) (by omega) (by
       rw [HSU.out,backOver_none (j:=j) (by rw [HST.out];show (if kj ≠ at_∨at_ < 0 then none else _)=none;rw [if_pos (Or.inl hq)])];rfl))
      clear hq
      go_wp2_with fail
      go_ret
      exact⟨HL.out,.inl ⟨HN.out,rfl⟩⟩
    ·obtain rfl:j=0:=by omega
     have HSX:=hid (show sizesTo (nds xs) (k+1)=some (sz ++ [(k:Int) - at_]) by
      rw [HSU.out]
      have h9:=HBK.out
      rw [List.drop_zero] at h9
      rw [h9];rfl)
     have wv:IntKind.i64.wrap ((k:Int) - at_)=(k:Int) - at_:=IntWalk.i64_in _ (by omega)
     have HIC:=hid (show intCells (sz ++ [(k:Int) - at_])=intCells sz ++ [.int .i64 ((k:Int) - at_)] by simp [intCells])
     go_wp2_with (at_builtin;refine wpList_append_own _ rfl (.tmp 47) (.tmp 51) 24 rfl (w.heap.size+1) 3 i0 _ 1 8 Tryz.underlying24 hi0 hz0 hz1 hz2 rfl (by decide) _ k (intCells sz) rfl (HO.out.alloc _) ⟨wr.heap.size,0,none⟩ 1 1 [.int .i64 ((k:Int) - at_)] rfl rfl ?c1 ?c2 ?c3 ?c4 ?c5 ?_)
     case c1=>exact World.news_of_block (cs:=#[.int .i64 ((k:Int) - at_)]) (t:=3) (fr:=(0,0)) (heap_alloc_new wr _)
     case c2=>intro u hu;rcases List.mem_singleton.1 hu with rfl;rfl
     case c3=>simp only [maxLen];omega
     case c4=>omega
     case c5=>simp;have:=HL.out.size;have:=HB.out.lt;omega
     intro v2 w3 hown2 hg2 _
     have hlz:=HB.out.lt
     have hb2:Below w.heap.size w w3:=(HL.out.alloc HL.out.size _).grown hg2 (by simp;omega) (fun k hk=>by have:=(HO.out.lt k hk).1;omega)
     have hB2:=(HB.out.alloc (.cells #[.int .i64 ((k:Int) - at_)] 3)).grown hg2 (fun e=>by have:=(HO.out.lt _ e.symm).1;omega)
     rw [← HIC.out] at hown2
     have HO2:=hid hown2;clear hown2
     go_wp2
     exact⟨⟨k+1,sz ++ [(k:Int) - at_],by omega,by go_num,HSX,HO2,hid hB2,hid hb2⟩,by simp [intOf];omega⟩
  ·have i3:decide (k < n)=false:=decide_eq_false hkn
   have hkk:k=n:=by omega
   subst hkk
   go_wp2_with fail
   go_ret
   exact⟨HL.out,.inr ⟨sz,_,HS.out,rfl,own_up HO.out (by omega)⟩⟩
end Go.Proofs.YthepmkjggfijoaaGreatDoor
namespace Go.Proofs.YthepmkjggfijoaaGreatDoor
open Go.RowKit Mist
attribute [local go_sem] ofL_extract ofL_size ofL_get ofL_bytes ofL_append
theorem rb {a b:Bool}(h:a=b):Ending.returned (Value.bool a)=Ending.returned (Value.bool b):=by rw [h]
theorem exprB_eq (k:Nat):exprB k=isExpr k:=by
 rfl
theorem rexpr_any (k:Nat)(w:World):Calls Tryz.prog 71 #[.int .u8 k] w fun e w'=>e=.returned (.bool (isExpr k))∧w'=w:=by
 have h:=rexpression_any k w
 rw [exprB_eq] at h
 exact h
def manyN (k:Nat)(n:Int)(m:Nat):Bool :=
 if [1,2,3,30,31,32,45].contains k then m == 0
 else if [4,5,22,25,33,34,43,44].contains k then m == 1
 else if k=19 then m == 3
 else if k=21 then true
 else if [24,26,41].contains k then decide (1≤m)
 else if k=42 then decide (2≤m)
 else if k=46 then (if n=7 then m == 0 else if n=8 then decide (1≤m) else m == 1)
 else m == 2
theorem manyN_eq (x:Nd):manyK x=manyN x.kind x.n x.kids.length:=rfl
def numberN (k:Nat)(n:Int):Bool :=
 if k=1 then within n (-9999) 9999
 else if k=2 then within n 0 1
 else if k=42 then decide (0≤n)
 else if k=33 then true
 else if k=46 then within n 1 8
 else n == 0
theorem numberN_eq (x:Nd):numberK x=numberN x.kind x.n:=rfl
def kidN (k m i q:Nat):Bool :=
 if k=24 then decide (q=25)
 else if k=41 then decide (q=34)
 else if k=34∨k=33 then isTyp q
 else if k=40 then decide (q=1)
 else if k=42 then (if i+1=m then isExpr q else if i+2=m then isTyp q else decide (q=34))
 else isExpr q
theorem kidN_eq (x:Nd)(i q:Nat):kidK x i q=kidN x.kind x.kids.length i q:=rfl
theorem rtype_any (k:Nat)(w:World):Calls Tryz.prog 168 #[.int .u8 k] w fun e w'=>e=.returned (.bool (isTyp k))∧w'=w:=by
 go_enter Tryz.func168,Tryz.ntmps168
 by_cases h1:30≤k
 ·have a1:decide ((30:Int)≤(k:Int))=true:=decide_eq_true (by omega)
  by_cases h2:k≤33
  ·have a2:decide ((k:Int)≤33)=true:=decide_eq_true (by omega)
   have HX:=hid (show isTyp k=true by simp [isTyp];omega)
   go_wp2
   go_ret
   exact⟨(by rw [HX.out];rfl),rfl⟩
  ·have a2:decide ((k:Int)≤33)=false:=decide_eq_false (by omega)
   have HX:=hid (show isTyp k=false by simp [isTyp];omega)
   go_wp2
   go_ret
   exact⟨(by rw [HX.out];rfl),rfl⟩
 ·have a1:decide ((30:Int)≤(k:Int))=false:=decide_eq_false (by omega)
  have HX:=hid (show isTyp k=false by simp [isTyp];omega)
  go_wp2
  go_ret
  exact⟨(by rw [HX.out];rfl),rfl⟩
theorem ritem_any (k:Nat)(w:World):Calls Tryz.prog 109 #[.int .u8 k] w fun e w'=>e=.returned (.bool (isItem k))∧w'=w:=by
 go_enter Tryz.func109,Tryz.ntmps109
 by_cases h1:40≤k
 ·have a1:decide ((40:Int)≤(k:Int))=true:=decide_eq_true (by omega)
  by_cases h2:k≤46
  ·have a2:decide ((k:Int)≤46)=true:=decide_eq_true (by omega)
   have HX:=hid (show isItem k=true by simp [isItem];omega)
   go_wp2
   go_ret
   exact⟨(by rw [HX.out];rfl),rfl⟩
  ·have a2:decide ((k:Int)≤46)=false:=decide_eq_false (by omega)
   have HX:=hid (show isItem k=false by simp [isItem];omega)
   go_wp2
   go_ret
   exact⟨(by rw [HX.out];rfl),rfl⟩
 ·have a1:decide ((40:Int)≤(k:Int))=false:=decide_eq_false (by omega)
  have HX:=hid (show isItem k=false by simp [isItem];omega)
  go_wp2
  go_ret
  exact⟨(by rw [HX.out];rfl),rfl⟩
theorem rnamed_any (k:Nat)(w:World):Calls Tryz.prog 169 #[.int .u8 k] w fun e w'=>e=.returned (.bool (namedK k))∧w'=w:=by
 by_cases h3:k=3
 ·subst h3
  go_enter Tryz.func169,Tryz.ntmps169
  go_wp2
  go_ret
  exact⟨rfl,rfl⟩
 by_cases h20:k=20
 ·subst h20
  go_enter Tryz.func169,Tryz.ntmps169
  go_wp2
  go_ret
  exact⟨rfl,rfl⟩
 by_cases h21:k=21
 ·subst h21
  go_enter Tryz.func169,Tryz.ntmps169
  go_wp2
  go_ret
  exact⟨rfl,rfl⟩
 by_cases h22:k=22
 ·subst h22
  go_enter Tryz.func169,Tryz.ntmps169
  go_wp2
  go_ret
  exact⟨rfl,rfl⟩
 by_cases h24:k=24
 ·subst h24
  go_enter Tryz.func169,Tryz.ntmps169
  go_wp2
  go_ret
  exact⟨rfl,rfl⟩
 by_cases h25:k=25
 ·subst h25
  go_enter Tryz.func169,Tryz.ntmps169
  go_wp2
  go_ret
  exact⟨rfl,rfl⟩
 by_cases h32:k=32
 ·subst h32
  go_enter Tryz.func169,Tryz.ntmps169
  go_wp2
  go_ret
  exact⟨rfl,rfl⟩
 by_cases h34:k=34
 ·subst h34
  go_enter Tryz.func169,Tryz.ntmps169
  go_wp2
  go_ret
  exact⟨rfl,rfl⟩
 by_cases h40:k=40
 ·subst h40
  go_enter Tryz.func169,Tryz.ntmps169
  go_wp2
  go_ret
  exact⟨rfl,rfl⟩
 by_cases h41:k=41
 ·subst h41
  go_enter Tryz.func169,Tryz.ntmps169
  go_wp2
  go_ret
  exact⟨rfl,rfl⟩
 by_cases h42:k=42
 ·subst h42
  go_enter Tryz.func169,Tryz.ntmps169
  go_wp2
  go_ret
  exact⟨rfl,rfl⟩
 by_cases h43:k=43
 ·subst h43
  go_enter Tryz.func169,Tryz.ntmps169
  go_wp2
  go_ret
  exact⟨rfl,rfl⟩
 by_cases h44:k=44
 ·subst h44
  go_enter Tryz.func169,Tryz.ntmps169
  go_wp2
  go_ret
  exact⟨rfl,rfl⟩
 by_cases h45:k=45
 ·subst h45
  go_enter Tryz.func169,Tryz.ntmps169
  go_wp2
  go_ret
  exact⟨rfl,rfl⟩
 have HX:=hid (show namedK k=false by simp [namedK];omega)
 have e3:((k:Int) == 3)=false:=by simp;omega
 have e20:((k:Int) == 20)=false:=by simp;omega
 have e21:((k:Int) == 21)=false:=by simp;omega
 have e22:((k:Int) == 22)=false:=by simp;omega
 have e24:((k:Int) == 24)=false:=by simp;omega
 have e25:((k:Int) == 25)=false:=by simp;omega
 have e32:((k:Int) == 32)=false:=by simp;omega
 have e34:((k:Int) == 34)=false:=by simp;omega
 have e40:((k:Int) == 40)=false:=by simp;omega
 have e41:((k:Int) == 41)=false:=by simp;omega
 have e42:((k:Int) == 42)=false:=by simp;omega
 have e43:((k:Int) == 43)=false:=by simp;omega
 have e44:((k:Int) == 44)=false:=by simp;omega
 have e45:((k:Int) == 45)=false:=by simp;omega
 clear h3 h20 h21 h22 h24 h25 h32 h34 h40 h41 h42 h43 h44 h45
 go_enter Tryz.func169,Tryz.ntmps169
 go_wp2
 go_ret
 exact⟨by rw [HX.out];rfl,rfl⟩
theorem rmany_any (k:Nat)(tx:Bs)(nn at_:Int)(A:Option Addr)(nk c:Nat)(w:World) :
  Calls Tryz.prog 171 #[.agg #[.int .u8 k,.string (ofL tx),.int .i64 nn,.slice A nk c,.int .i64 at_]] w fun e w'=>e=.returned (.bool (manyN k nn nk))∧Below w.heap.size w w':=by
 by_cases h1:k=1
 ·subst h1
  have HX:=hid (show manyN 1 nn nk=(nk == 0) by first | rfl | simp [manyN])
  go_enter Tryz.func171,Tryz.ntmps171
  go_wp2
  go_ret
  exact⟨by rw [HX.out];first | rfl|(refine rb ?_;rw [Bool.eq_iff_iff];simp <;> omega),balloc (Below.refl _ _) (Nat.le_refl _)⟩
 by_cases h2:k=2
 ·subst h2
  have HX:=hid (show manyN 2 nn nk=(nk == 0) by first | rfl | simp [manyN])
  go_enter Tryz.func171,Tryz.ntmps171
  go_wp2
  go_ret
  exact⟨by rw [HX.out];first | rfl|(refine rb ?_;rw [Bool.eq_iff_iff];simp <;> omega),balloc (Below.refl _ _) (Nat.le_refl _)⟩
 by_cases h3:k=3
 ·subst h3
  have HX:=hid (show manyN 3 nn nk=(nk == 0) by first | rfl | simp [manyN])
  go_enter Tryz.func171,Tryz.ntmps171
  go_wp2
  go_ret
  exact⟨by rw [HX.out];first | rfl|(refine rb ?_;rw [Bool.eq_iff_iff];simp <;> omega),balloc (Below.refl _ _) (Nat.le_refl _)⟩
 by_cases h30:k=30
 ·subst h30
  have HX:=hid (show manyN 30 nn nk=(nk == 0) by first | rfl | simp [manyN])
  go_enter Tryz.func171,Tryz.ntmps171
  go_wp2
  go_ret
  exact⟨by rw [HX.out];first | rfl|(refine rb ?_;rw [Bool.eq_iff_iff];simp <;> omega),balloc (Below.refl _ _) (Nat.le_refl _)⟩
 by_cases h31:k=31
 ·subst h31
  have HX:=hid (show manyN 31 nn nk=(nk == 0) by first | rfl | simp [manyN])
  go_enter Tryz.func171,Tryz.ntmps171
  go_wp2
  go_ret
  exact⟨by rw [HX.out];first | rfl|(refine rb ?_;rw [Bool.eq_iff_iff];simp <;> omega),balloc (Below.refl _ _) (Nat.le_refl _)⟩
 by_cases h32:k=32
 ·subst h32
  have HX:=hid (show manyN 32 nn nk=(nk == 0) by first | rfl | simp [manyN])
  go_enter Tryz.func171,Tryz.ntmps171
  go_wp2
  go_ret
  exact⟨by rw [HX.out];first | rfl|(refine rb ?_;rw [Bool.eq_iff_iff];simp <;> omega),balloc (Below.refl _ _) (Nat.le_refl _)⟩
 by_cases h45:k=45
 ·subst h45
  have HX:=hid (show manyN 45 nn nk=(nk == 0) by first | rfl | simp [manyN])
  go_enter Tryz.func171,Tryz.ntmps171
  go_wp2
  go_ret
  exact⟨by rw [HX.out];first | rfl|(refine rb ?_;rw [Bool.eq_iff_iff];simp <;> omega),balloc (Below.refl _ _) (Nat.le_refl _)⟩
 by_cases h4:k=4
 ·subst h4
  have HX:=hid (show manyN 4 nn nk=(nk == 1) by first | rfl | simp [manyN])
  go_enter Tryz.func171,Tryz.ntmps171
  go_wp2
  go_ret
  exact⟨by rw [HX.out];first | rfl|(refine rb ?_;rw [Bool.eq_iff_iff];simp <;> omega),balloc (Below.refl _ _) (Nat.le_refl _)⟩
 by_cases h5:k=5
 ·subst h5
  have HX:=hid (show manyN 5 nn nk=(nk == 1) by first | rfl | simp [manyN])
  go_enter Tryz.func171,Tryz.ntmps171
  go_wp2
  go_ret
  exact⟨by rw [HX.out];first | rfl|(refine rb ?_;rw [Bool.eq_iff_iff];simp <;> omega),balloc (Below.refl _ _) (Nat.le_refl _)⟩
 by_cases h22:k=22
 ·subst h22
  have HX:=hid (show manyN 22 nn nk=(nk == 1) by first | rfl | simp [manyN])
  go_enter Tryz.func171,Tryz.ntmps171
  go_wp2
  go_ret
  exact⟨by rw [HX.out];first | rfl|(refine rb ?_;rw [Bool.eq_iff_iff];simp <;> omega),balloc (Below.refl _ _) (Nat.le_refl _)⟩
 by_cases h25:k=25
 ·subst h25
  have HX:=hid (show manyN 25 nn nk=(nk == 1) by first | rfl | simp [manyN])
  go_enter Tryz.func171,Tryz.ntmps171
  go_wp2
  go_ret
  exact⟨by rw [HX.out];first | rfl|(refine rb ?_;rw [Bool.eq_iff_iff];simp <;> omega),balloc (Below.refl _ _) (Nat.le_refl _)⟩
 by_cases h33:k=33
 ·subst h33
  have HX:=hid (show manyN 33 nn nk=(nk == 1) by first | rfl | simp [manyN])
  go_enter Tryz.func171,Tryz.ntmps171
  go_wp2
  go_ret
  exact⟨by rw [HX.out];first | rfl|(refine rb ?_;rw [Bool.eq_iff_iff];simp <;> omega),balloc (Below.refl _ _) (Nat.le_refl _)⟩
 by_cases h34:k=34
 ·subst h34
  have HX:=hid (show manyN 34 nn nk=(nk == 1) by first | rfl | simp [manyN])
  go_enter Tryz.func171,Tryz.ntmps171
  go_wp2
  go_ret
  exact⟨by rw [HX.out];first | rfl|(refine rb ?_;rw [Bool.eq_iff_iff];simp <;> omega),balloc (Below.refl _ _) (Nat.le_refl _)⟩
 by_cases h43:k=43
 ·subst h43
  have HX:=hid (show manyN 43 nn nk=(nk == 1) by first | rfl | simp [manyN])
  go_enter Tryz.func171,Tryz.ntmps171
  go_wp2
  go_ret
  exact⟨by rw [HX.out];first | rfl|(refine rb ?_;rw [Bool.eq_iff_iff];simp <;> omega),balloc (Below.refl _ _) (Nat.le_refl _)⟩
 by_cases h44:k=44
 ·subst h44
  have HX:=hid (show manyN 44 nn nk=(nk == 1) by first | rfl | simp [manyN])
  go_enter Tryz.func171,Tryz.ntmps171
  go_wp2
  go_ret
  exact⟨by rw [HX.out];first | rfl|(refine rb ?_;rw [Bool.eq_iff_iff];simp <;> omega),balloc (Below.refl _ _) (Nat.le_refl _)⟩
 by_cases h19:k=19
 ·subst h19
  have HX:=hid (show manyN 19 nn nk=(nk == 3) by first | rfl | simp [manyN])
  go_enter Tryz.func171,Tryz.ntmps171
  go_wp2
  go_ret
  exact⟨by rw [HX.out];first | rfl|(refine rb ?_;rw [Bool.eq_iff_iff];simp <;> omega),balloc (Below.refl _ _) (Nat.le_refl _)⟩
 by_cases h21:k=21
 ·subst h21
  have HX:=hid (show manyN 21 nn nk=true by first | rfl | simp [manyN])
  go_enter Tryz.func171,Tryz.ntmps171
  go_wp2
  go_ret
  exact⟨by rw [HX.out];first | rfl|(refine rb ?_;rw [Bool.eq_iff_iff];simp <;> omega),balloc (Below.refl _ _) (Nat.le_refl _)⟩
 by_cases h24:k=24
 ·subst h24
  have HX:=hid (show manyN 24 nn nk=decide (1≤nk) by first | rfl | simp [manyN])
  go_enter Tryz.func171,Tryz.ntmps171
  go_wp2
  go_ret
  exact⟨by rw [HX.out];first | rfl|(refine rb ?_;rw [Bool.eq_iff_iff];simp <;> omega),balloc (Below.refl _ _) (Nat.le_refl _)⟩
 by_cases h26:k=26
 ·subst h26
  have HX:=hid (show manyN 26 nn nk=decide (1≤nk) by first | rfl | simp [manyN])
  go_enter Tryz.func171,Tryz.ntmps171
  go_wp2
  go_ret
  exact⟨by rw [HX.out];first | rfl|(refine rb ?_;rw [Bool.eq_iff_iff];simp <;> omega),balloc (Below.refl _ _) (Nat.le_refl _)⟩
 by_cases h41:k=41
 ·subst h41
  have HX:=hid (show manyN 41 nn nk=decide (1≤nk) by first | rfl | simp [manyN])
  go_enter Tryz.func171,Tryz.ntmps171
  go_wp2
  go_ret
  exact⟨by rw [HX.out];first | rfl|(refine rb ?_;rw [Bool.eq_iff_iff];simp <;> omega),balloc (Below.refl _ _) (Nat.le_refl _)⟩
 by_cases h42:k=42
 ·subst h42
  have HX:=hid (show manyN 42 nn nk=decide (2≤nk) by first | rfl | simp [manyN])
  go_enter Tryz.func171,Tryz.ntmps171
  go_wp2
  go_ret
  exact⟨by rw [HX.out];first | rfl|(refine rb ?_;rw [Bool.eq_iff_iff];simp <;> omega),balloc (Below.refl _ _) (Nat.le_refl _)⟩
 by_cases h46:k=46
 ·subst h46
  have HX:=hid (show manyN 46 nn nk=(if nn=7 then nk == 0 else if nn=8 then decide (1≤nk) else nk == 1) by first | rfl | simp [manyN])
  go_enter Tryz.func171,Tryz.ntmps171
  by_cases h7:nn=7
  ·subst h7
   go_wp2
   go_ret
   exact⟨by rw [HX.out];first | rfl|(refine rb ?_;rw [Bool.eq_iff_iff];simp <;> omega),balloc (Below.refl _ _) (Nat.le_refl _)⟩
  by_cases h8:nn=8
  ·subst h8
   go_wp2
   go_ret
   exact⟨by rw [HX.out];first | rfl|(refine rb ?_;rw [Bool.eq_iff_iff];simp <;> omega),balloc (Below.refl _ _) (Nat.le_refl _)⟩
  rw [if_neg h7,if_neg h8] at HX
  have e7:(nn == 7)=false:=by simp;omega
  have e8:(nn == 8)=false:=by simp;omega
  clear h7 h8
  go_wp2
  go_ret
  exact⟨by rw [HX.out];first | rfl|(refine rb ?_;rw [Bool.eq_iff_iff];simp <;> omega),balloc (Below.refl _ _) (Nat.le_refl _)⟩
 have HX:=hid (show manyN k nn nk=(nk == 2) by simp [manyN,h1,h2,h3,h30,h31,h32,h45,h4,h5,h22,h25,h33,h34,h43,h44,h19,h21,h24,h26,h41,h42,h46])
 have e1:((k:Int) == 1)=false:=by simp;omega
 have e2:((k:Int) == 2)=false:=by simp;omega
 have e3:((k:Int) == 3)=false:=by simp;omega
 have e30:((k:Int) == 30)=false:=by simp;omega
 have e31:((k:Int) == 31)=false:=by simp;omega
 have e32:((k:Int) == 32)=false:=by simp;omega
 have e45:((k:Int) == 45)=false:=by simp;omega
 have e4:((k:Int) == 4)=false:=by simp;omega
 have e5:((k:Int) == 5)=false:=by simp;omega
 have e22:((k:Int) == 22)=false:=by simp;omega
 have e25:((k:Int) == 25)=false:=by simp;omega
 have e33:((k:Int) == 33)=false:=by simp;omega
 have e34:((k:Int) == 34)=false:=by simp;omega
 have e43:((k:Int) == 43)=false:=by simp;omega
 have e44:((k:Int) == 44)=false:=by simp;omega
 have e19:((k:Int) == 19)=false:=by simp;omega
 have e21:((k:Int) == 21)=false:=by simp;omega
 have e24:((k:Int) == 24)=false:=by simp;omega
 have e26:((k:Int) == 26)=false:=by simp;omega
 have e41:((k:Int) == 41)=false:=by simp;omega
 have e42:((k:Int) == 42)=false:=by simp;omega
 have e46:((k:Int) == 46)=false:=by simp;omega
 clear h1 h2 h3 h30 h31 h32 h45 h4 h5 h22 h25 h33 h34 h43 h44 h19 h21 h24 h26 h41 h42 h46
 go_enter Tryz.func171,Tryz.ntmps171
 go_wp2
 go_ret
 exact⟨by rw [HX.out];first | rfl|(refine rb ?_;rw [Bool.eq_iff_iff];simp <;> omega),balloc (Below.refl _ _) (Nat.le_refl _)⟩
theorem rnumberK_any (k:Nat)(tx:Bs)(nn at_:Int)(A:Option Addr)(nk c:Nat)(w:World) :
  Calls Tryz.prog 172 #[.agg #[.int .u8 k,.string (ofL tx),.int .i64 nn,.slice A nk c,.int .i64 at_]] w fun e w'=>e=.returned (.bool (numberN k nn))∧Below w.heap.size w w':=by
 by_cases h1:k=1
 ·subst h1
  have HX:=hid (show numberN 1 nn=within nn (-9999) 9999 by first | rfl | simp [numberN])
  go_enter Tryz.func172,Tryz.ntmps172
  by_cases a1:-9999≤nn
  ·have d1:decide (-9999≤nn)=true:=decide_eq_true a1
   go_wp2
   go_ret
   exact⟨by rw [HX.out];first | rfl|(refine rb ?_;rw [Bool.eq_iff_iff];simp [within] <;> omega),balloc (Below.refl _ _) (Nat.le_refl _)⟩
  ·have d1:decide (-9999≤nn)=false:=decide_eq_false a1
   go_wp2
   go_ret
   exact⟨by rw [HX.out];first | rfl|(refine rb ?_;rw [Bool.eq_iff_iff];simp [within] <;> omega),balloc (Below.refl _ _) (Nat.le_refl _)⟩
 by_cases h2:k=2
 ·subst h2
  have HX:=hid (show numberN 2 nn=within nn 0 1 by first | rfl | simp [numberN])
  go_enter Tryz.func172,Tryz.ntmps172
  by_cases a1:nn=0
  ·subst a1
   go_wp2
   go_ret
   exact⟨by rw [HX.out];rfl,balloc (Below.refl _ _) (Nat.le_refl _)⟩
  ·have d1:(nn == 0)=false:=by simp;omega
   go_wp2
   go_ret
   exact⟨by rw [HX.out];refine rb ?_;rw [Bool.eq_iff_iff];simp [within] <;> omega,balloc (Below.refl _ _) (Nat.le_refl _)⟩
 by_cases h42:k=42
 ·subst h42
  have HX:=hid (show numberN 42 nn=decide (0≤nn) by first | rfl | simp [numberN])
  go_enter Tryz.func172,Tryz.ntmps172
  go_wp2
  go_ret
  exact⟨by rw [HX.out];first | rfl|(refine rb ?_;rw [Bool.eq_iff_iff];simp <;> omega),balloc (Below.refl _ _) (Nat.le_refl _)⟩
 by_cases h33:k=33
 ·subst h33
  have HX:=hid (show numberN 33 nn=true by first | rfl | simp [numberN])
  go_enter Tryz.func172,Tryz.ntmps172
  go_wp2
  go_ret
  exact⟨by rw [HX.out];first | rfl|(refine rb ?_;rw [Bool.eq_iff_iff];simp <;> omega),balloc (Below.refl _ _) (Nat.le_refl _)⟩
 by_cases h46:k=46
 ·subst h46
  have HX:=hid (show numberN 46 nn=within nn 1 8 by first | rfl | simp [numberN])
  go_enter Tryz.func172,Tryz.ntmps172
  by_cases a1:1≤nn
  ·have d1:decide (1≤nn)=true:=decide_eq_true a1
   go_wp2
   go_ret
   exact⟨by rw [HX.out];first | rfl|(refine rb ?_;rw [Bool.eq_iff_iff];simp [within] <;> omega),balloc (Below.refl _ _) (Nat.le_refl _)⟩
  ·have d1:decide (1≤nn)=false:=decide_eq_false a1
   go_wp2
   go_ret
   exact⟨by rw [HX.out];first | rfl|(refine rb ?_;rw [Bool.eq_iff_iff];simp [within] <;> omega),balloc (Below.refl _ _) (Nat.le_refl _)⟩
 have HX:=hid (show numberN k nn=(nn == 0) by simp [numberN,h1,h2,h42,h33,h46])
 have e1:((k:Int) == 1)=false:=by simp;omega
 have e2:((k:Int) == 2)=false:=by simp;omega
 have e42:((k:Int) == 42)=false:=by simp;omega
 have e33:((k:Int) == 33)=false:=by simp;omega
 have e46:((k:Int) == 46)=false:=by simp;omega
 clear h1 h2 h42 h33 h46
 go_enter Tryz.func172,Tryz.ntmps172
 go_wp2
 go_ret
 exact⟨by rw [HX.out];first | rfl|(refine rb ?_;rw [Bool.eq_iff_iff];simp <;> omega),balloc (Below.refl _ _) (Nat.le_refl _)⟩
theorem rkid_any (k:Nat)(tx:Bs)(nn at_:Int)(A:Option Addr)(nk c i q:Nat)(w:World)(hi:i < nk)(hnk:nk≤1000000) :
  Calls Tryz.prog 173 #[.agg #[.int .u8 k,.string (ofL tx),.int .i64 nn,.slice A nk c,.int .i64 at_],.int .i64 i,.int .u8 q] w fun e w'=>e=.returned (.bool (kidN k nk i q))∧Below w.heap.size w w':=by
 by_cases h24:k=24
 ·subst h24
  have HX:=hid (show kidN 24 nk i q=decide (q=25) by first | rfl | simp [kidN])
  go_enter Tryz.func173,Tryz.ntmps173
  go_wp2
  go_ret
  exact⟨by rw [HX.out];first | rfl|(refine rb ?_;rw [Bool.eq_iff_iff];simp <;> omega),balloc (Below.refl _ _) (Nat.le_refl _)⟩
 by_cases h41:k=41
 ·subst h41
  have HX:=hid (show kidN 41 nk i q=decide (q=34) by first | rfl | simp [kidN])
  go_enter Tryz.func173,Tryz.ntmps173
  go_wp2
  go_ret
  exact⟨by rw [HX.out];first | rfl|(refine rb ?_;rw [Bool.eq_iff_iff];simp <;> omega),balloc (Below.refl _ _) (Nat.le_refl _)⟩
 by_cases h34:k=34
 ·subst h34
  have HX:=hid (show kidN 34 nk i q=isTyp q by first | rfl | simp [kidN])
  go_enter Tryz.func173,Tryz.ntmps173
  go_wp2_with fail
  refine (rtype_any q _).mono ?_
  rintro e w1⟨rfl,rfl⟩
  go_wp2
  go_ret
  exact⟨by rw [HX.out];rfl,balloc (Below.refl _ _) (Nat.le_refl _)⟩
 by_cases h33:k=33
 ·subst h33
  have HX:=hid (show kidN 33 nk i q=isTyp q by first | rfl | simp [kidN])
  go_enter Tryz.func173,Tryz.ntmps173
  go_wp2_with fail
  refine (rtype_any q _).mono ?_
  rintro e w1⟨rfl,rfl⟩
  go_wp2
  go_ret
  exact⟨by rw [HX.out];rfl,balloc (Below.refl _ _) (Nat.le_refl _)⟩
 by_cases h40:k=40
 ·subst h40
  have HX:=hid (show kidN 40 nk i q=decide (q=1) by first | rfl | simp [kidN])
  go_enter Tryz.func173,Tryz.ntmps173
  go_wp2
  go_ret
  exact⟨by rw [HX.out];first | rfl|(refine rb ?_;rw [Bool.eq_iff_iff];simp <;> omega),balloc (Below.refl _ _) (Nat.le_refl _)⟩
 by_cases h42:k=42
 ·subst h42
  have HX:=hid (show kidN 42 nk i q=(if i+1=nk then isExpr q else if i+2=nk then isTyp q else decide (q=34)) by first | rfl | simp [kidN])
  go_enter Tryz.func173,Tryz.ntmps173
  by_cases a1:i+1=nk
  ·rw [if_pos a1] at HX
   have d1:((i:Int) == (nk:Int) - 1)=true:=by simp;omega
   go_wp2_with fail
   refine (rexpr_any q _).mono ?_
   rintro e w1⟨rfl,rfl⟩
   go_wp2
   go_ret
   exact⟨by rw [HX.out];rfl,balloc (Below.refl _ _) (Nat.le_refl _)⟩
  rw [if_neg a1] at HX
  have d1:((i:Int) == (nk:Int) - 1)=false:=by simp;omega
  by_cases a2:i+2=nk
  ·rw [if_pos a2] at HX
   have d2:((i:Int) == (nk:Int) - 2)=true:=by simp;omega
   go_wp2_with fail
   refine (rtype_any q _).mono ?_
   rintro e w1⟨rfl,rfl⟩
   go_wp2
   go_ret
   exact⟨by rw [HX.out];rfl,balloc (Below.refl _ _) (Nat.le_refl _)⟩
  rw [if_neg a2] at HX
  have d2:((i:Int) == (nk:Int) - 2)=false:=by simp;omega
  go_wp2
  go_ret
  exact⟨by rw [HX.out];first | rfl|(refine rb ?_;rw [Bool.eq_iff_iff];simp <;> omega),balloc (Below.refl _ _) (Nat.le_refl _)⟩
 have HX:=hid (show kidN k nk i q=isExpr q by simp [kidN,h24,h41,h34,h33,h40,h42])
 have e24:((k:Int) == 24)=false:=by simp;omega
 have e41:((k:Int) == 41)=false:=by simp;omega
 have e34:((k:Int) == 34)=false:=by simp;omega
 have e33:((k:Int) == 33)=false:=by simp;omega
 have e40:((k:Int) == 40)=false:=by simp;omega
 have e42:((k:Int) == 42)=false:=by simp;omega
 clear h24 h41 h34 h33 h40 h42
 go_enter Tryz.func173,Tryz.ntmps173
 go_wp2_with fail
 refine (rexpr_any q _).mono ?_
 rintro e w1⟨rfl,rfl⟩
 go_wp2
 go_ret
 exact⟨by rw [HX.out];rfl,balloc (Below.refl _ _) (Nat.le_refl _)⟩
end Go.Proofs.YthepmkjggfijoaaGreatDoor
