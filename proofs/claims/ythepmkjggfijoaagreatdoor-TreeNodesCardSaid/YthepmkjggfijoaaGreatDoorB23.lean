/-
  PARTS of the proof: N5, N6A.
-/
import Derived.Deep.Cut
import Derived.Test.YthepmkjggfijoaaGreatDoorB22
set_option linter.all false
set_option maxRecDepth 100000
set_option maxHeartbeats 4000000
open Go.Lib (hid)
namespace Go.Proofs.YthepmkjggfijoaaGreatDoor
open Go.RowKit Mist
theorem restOf_bd:∀ l:List Part,(∀ p ∈ l,0≤p.least∧p.least≤801)→0≤restOf l∧restOf l≤801 * (l.length:Int)
 | [],_=>by simp [restOf]
 | p :: r,h=>by
  have h1:=restOf_bd r (fun q hq=>h q (List.mem_cons_of_mem _ hq))
  have h2:=h p (List.mem_cons_self ..)
  have e:restOf (p :: r)=p.least+restOf r:=by simp [restOf]
  rw [e,List.length_cons]
  omega
theorem restOf_snoc (l:List Part) (p:Part):restOf (l ++ [p])=restOf l+p.least:=by simp [restOf]
theorem fits_cons_no {l M:Int} {pd:Pd} {r:List Part} {ks:List Nat} {m:Nat} {rs:Int} (h:Mist.within ((m:Int) - rs) l M=false) (hm:ks.length=m) (hr:rs=restOf r):Mist.fits (⟨l,M,pd⟩ :: r) ks=false:=by
 rw [Mist.fits]
 subst hm;subst hr
 rw [h];rfl
theorem fits_cons_yes {l M:Int} {pd:Pd} {r:List Part} {ks:List Nat} {m nn:Nat} {rs:Int} (h:Mist.within ((m:Int) - rs) l M=true) (hm:ks.length=m) (hr:rs=restOf r) (hn:(m:Int) - rs=(nn:Int)):Mist.fits (⟨l,M,pd⟩ :: r) ks=((ks.take nn).all pd.is && Mist.fits r (ks.drop nn)):=by
 rw [Mist.fits]
 subst hm;subst hr
 rw [h,Bool.true_and,hn,Int.toNat_natCast]
def PartR (ps:List Part):Prop:=ps.length≤3∧∀ p ∈ ps,0≤p.least∧p.least≤801∧0≤p.most∧p.most≤801
theorem fits_any (nm:Bool) (lo hi:Int) (ps:List Part) (A:Option Addr) (c:Nat) (ks:List Nat) (K:Option Addr) (kc:Nat) (w:World) (hP:PartsIn w A ps) (hpc:ps.length≤c) (hR:PartR ps) (hK:KindsIn w K ks) (hl:ks.length≤1000000) (hkc:ks.length≤kc) :
  Calls Tryz.prog 105 #[.agg #[.bool nm,.int .i64 lo,.int .i64 hi,.slice A ps.length c],.slice K ks.length kc] w fun e w'=>e=.returned (.bool (Mist.fits ps ks))∧Below w.heap.size w w':=by
 obtain⟨n,hn⟩:∃ n,n=ps.length:=⟨_,rfl⟩
 obtain⟨m0,hm0⟩:∃ m,m=ks.length:=⟨_,rfl⟩
 have hn3:n≤3:=by rw [hn];exact hR.1
 rw [← hn] at hpc ⊢
 rw [← hm0] at hl hkc ⊢
 have HN:=hid hn;clear hn
 have HM:=hid hm0;clear hm0
 have HP:=hid hP;clear hP
 have HR:=hid hR;clear hR
 have HK:=hid hK;clear hK
 go_enter Tryz.func105,Tryz.ntmps105
 go_wp2_with fail
 have HT:=hid (Blk.new w 119 #[.bool nm,.int .i64 lo,.int .i64 hi,.slice A n c])
 have HL0:=hid (balloc (Below.refl w.heap.size w) (Nat.le_refl _) (o:=.cells #[.bool nm,.int .i64 lo,.int .i64 hi,.slice A n c] 119))
 go_loopw [1,14] (fun v i wr=>∃ (k m kc':Nat) (ks':List Nat) (K':Option Addr),k≤n∧i=.int .i64 k∧v=.slice K' m kc'∧m≤kc'∧m≤1000000∧Hid (ks'.length=m)∧Hid (KindsIn wr K' ks')∧Hid (Mist.fits (ps.drop k) ks'=Mist.fits ps ks)∧Hid (Below w.heap.size w wr)∧Hid (Blk wr w.heap.size 119 #[.bool nm,.int .i64 lo,.int .i64 hi,.slice A n c])) (fun _ i _=>n - (intOf i).toNat)
 case atStart=>exact⟨0,m0,kc,ks,K,Nat.zero_le _,rfl,rfl,hkc,hl,hid HM.out.symm,hid (HK.out.below HL0.out),hid rfl,HL0,HT⟩
 case round =>
  clear HT HL0 HK HM hl hkc
  obtain⟨k,m,kc',ks',K',hk,rfl,rfl,hmc,hm6,HM,HK,HF,HL,HT⟩:=hrel
  obtain⟨wo,rfl⟩:∃ wo:World,wo=wr:=⟨_,rfl⟩
  have t3:=HT.out.cell 3
  have hsz:=HT.out.lt
  by_cases hlt:k < n
  ·obtain⟨b,rfl,hbl,hcl⟩:=HP.out.ex (by rw [← HN.out];omega)
   obtain⟨p,hp⟩:∃ p,ps[k]? = some p:=⟨_,List.getElem?_eq_getElem (by rw [← HN.out];exact hlt)⟩
   obtain⟨c0,c1,c2⟩:=hcl k p hp
   have d0:=(HL.out.cell (p:=⟨b,k * 3,none⟩) hbl).trans c0
   have d1:=(HL.out.cell (p:=⟨b,k * 3+1,none⟩) hbl).trans c1
   have d2:=(HL.out.cell (p:=⟨b,k * 3+2,none⟩) hbl).trans c2
   have hpr:=HR.out.2 p (List.mem_of_getElem? hp)
   have HCL:=hid hcl
   have HPP:=hid hp
   clear c0 c1 c2 hcl hp
   simp only [pdV] at d2
   obtain⟨lst,mst,pd⟩:=p
   simp only at d0 d1 d2 hpr
   have i1:(0:Int)≤(k:Int):=by omega
   have i2:(k:Int) < (n:Int):=by omega
   have HD:=hid (show ps.drop k=⟨lst,mst,pd⟩ :: ps.drop (k+1) by
    rw [List.drop_eq_getElem_cons (by rw [← HN.out];exact hlt),(List.getElem?_eq_some_iff.1 HPP.out).2])
   have HF2:=hid (show Mist.fits (⟨lst,mst,pd⟩ :: ps.drop (k+1)) ks'=Mist.fits ps ks by rw [← HD.out];exact HF.out)
   clear HF HD
   obtain⟨q,hq⟩:∃ q,q=pdFn pd:=⟨_,rfl⟩
   rw [← hq] at d2
   have HQ:=hid hq;clear hq
   have hkc2:k+1≤c:=by omega
   rcases Classical.em (c=k+1) with rfl | hck
   all_goals
    go_wp2_with fail
    have HB6:=hid (Blk.new wo 152 #[.int .i64 lst,.int .i64 mst,.func (.func q) #[] #[]])
    have HL6:=hid (balloc HL.out HL.out.size (o:=.cells #[.int .i64 lst,.int .i64 mst,.func (.func q) #[] #[]] 152))
    go_loopw [7,25] (fun v j wr_1=>∃ (jn:Nat) (rs:Int),jn≤n - (k+1)∧j=.int .i64 jn∧v=.int .i64 rs∧0≤rs∧rs≤801 * (jn:Int)∧Hid (rs=restOf ((ps.drop (k+1)).take jn))∧Hid (Below w.heap.size w wr_1)∧Hid (Blk wr_1 wo.heap.size 152 #[.int .i64 lst,.int .i64 mst,.func (.func q) #[] #[]])∧Hid (Below wo.heap.size wo wr_1)) (fun _ j _=>n - (k+1) - (intOf j).toNat)
    case atStart=>exact⟨0,0,Nat.zero_le _,rfl,rfl,Int.le_refl _,by omega,hid (by simp [restOf]),HL6,HB6,hid (balloc (Below.refl _ _) (Nat.le_refl _))⟩
    case round =>
     clear HL6 HB6
     obtain⟨jn,rs,hj,rfl,rfl,hr0,hr1,HRS,HL6,HB6,HW6⟩:=hrel
     by_cases hjl:jn < n - (k+1)
     ·first
      | (exfalso;omega)
      | (obtain ⟨p2, hp2⟩ : ∃ p2, ps[k + 1 + jn]? = some p2 := ⟨_, List.getElem?_eq_getElem (by rw [← HN.out]; omega)⟩
         obtain⟨e0,e1,e2⟩:=HCL.out (k+1+jn) p2 hp2
         have hpr2:=HR.out.2 p2 (List.mem_of_getElem? hp2)
         have g0:=(HL6.out.cell (p:=⟨b,(k+1+jn) * 3,none⟩) hbl).trans e0
         have g1:=(HL6.out.cell (p:=⟨b,(k+1+jn) * 3+1,none⟩) hbl).trans e1
         have g2:=(HL6.out.cell (p:=⟨b,(k+1+jn) * 3+2,none⟩) hbl).trans e2
         rw [show (k+1+jn) * 3=(k+1) * 3+jn * 3 by omega] at g0 g1 g2
         have HP2:=hid hp2
         clear e0 e1 e2 hp2
         simp only [pdV] at g2
         obtain⟨lst2,mst2,pd2⟩:=p2
         simp only at g0 g1 g2 hpr2
         obtain⟨q2,hq2⟩:∃ q,q=pdFn pd2:=⟨_,rfl⟩
         rw [← hq2] at g2
         clear hq2
         have j1:(0:Int)≤(jn:Int):=by omega
         have j2:(jn:Int) < ((n - (k+1):Nat):Int):=by omega
         have j3:decide (jn < n - (k+1))=true:=decide_eq_true hjl
         go_wp2_with fail
         refine⟨⟨jn+1,rs+lst2,by omega,by go_num,rfl,by omega,by omega,hid ?_,hid (balloc HL6.out HL6.out.size),hid (HB6.out.alloc _),hid (balloc HW6.out HW6.out.size)⟩,by simp [intOf];omega⟩
         rw [List.take_add_one,List.getElem?_drop,HP2.out,HRS.out]
         exact (restOf_snoc _ (⟨lst2,mst2,pd2⟩:Part)).symm)
     ·have HRS2:=hid (show rs=restOf (ps.drop (k+1)) by rw [HRS.out,List.take_of_length_le (by rw [List.length_drop,← HN.out];omega)])
      clear HRS
      have hsz6:=HB6.out.lt
      have j3:decide (jn < n - (k+1))=false:=decide_eq_false hjl
      have b0:=HB6.out.cell 0
      have b1:=HB6.out.cell 1
      have hjn:(jn:Int)≤3:=by omega
      have hrs3:rs≤2403:=by omega
      have hm0:(0:Int)≤(m:Int):=by omega
      have hm1:(m:Int)≤1000000:=by omega
      cases hw:Mist.within ((m:Int) - rs) lst mst
      ·have HWI:=hid hw;clear hw
       go_wp2_with fail
       refine (within_any ((m:Int) - rs) lst mst false HWI.out _).mono ?_
       rintro e w2 ⟨rfl,rfl⟩
       go_wp2_with fail
       go_ret
       exact⟨ret_bool (by rw [← HF2.out,fits_cons_no HWI.out HM.out HRS2.out]),HL6.out⟩
      ·have HWI:=hid hw
       have hw2:lst≤(m:Int) - rs∧(m:Int) - rs≤mst:=by simpa [Mist.within] using hw
       obtain⟨nn,hnn⟩:∃ nn:Nat,(m:Int) - rs=(nn:Int):=⟨((m:Int) - rs).toNat,by omega⟩
       have HNN:=hid hnn
       have hnm:nn≤m:=by omega
       clear hw
       have n1:(0:Int)≤(nn:Int):=by omega
       have n2:(nn:Int)≤(m:Int):=by omega
       cases hr2:(ks'.take nn).all pd.is
       ·have HR2:=hid hr2;clear hr2
        go_wp2_with fail
        refine (within_any _ lst mst true (by rw [← HNN.out];exact HWI.out) _).mono ?_
        rintro e w2 ⟨rfl,rfl⟩
        go_wp2_with fail
        refine (contains_kinds' pd (ks'.take nn) nn (by rw [List.length_take,HM.out];omega) K' kc' _ ((HK.out.below HW6.out).take nn) (by rw [List.length_take,HM.out];omega) _ _ wo.heap.size 152 (by rw [pdV,← HQ.out];exact HB6.out) false HR2.out).mono ?_
        rintro e w3 ⟨rfl,rfl⟩
        go_wp2_with fail
        go_ret
        exact⟨ret_bool (by rw [← HF2.out,fits_cons_yes HWI.out HM.out HRS2.out HNN.out,HR2.out,Bool.false_and]),HL6.out⟩
       ·have HR2:=hid hr2;clear hr2
        by_cases hkn:kc'=nn
        all_goals
         go_wp2_with fail
         refine (within_any _ lst mst true (by rw [← HNN.out];exact HWI.out) _).mono ?_
         rintro e w2 ⟨rfl,rfl⟩
         go_wp2_with fail
         refine (contains_kinds' pd (ks'.take nn) nn (by rw [List.length_take,HM.out];omega) K' _ _ ((HK.out.below HW6.out).take nn) (by rw [List.length_take,HM.out];omega) _ _ wo.heap.size 152 (by rw [pdV,← HQ.out];exact HB6.out) true HR2.out).mono ?_
         rintro e w3 ⟨rfl,rfl⟩
         go_wp2_with fail
         have HKD:=hid ((HK.out.below HW6.out).drop (n:=nn) (c:=kc') (by rw [HM.out];exact hmc))
         refine⟨⟨k+1,m - nn,_,ks'.drop nn,_,by omega,by go_num,rfl,by omega,by omega,hid (by rw [List.length_drop,HM.out]),hid (by have h9:=HKD.out;first | rwa [if_pos hkn] at h9 | rwa [if_neg hkn] at h9),hid (by have h9:=HF2.out;rw [fits_cons_yes HWI.out HM.out HRS2.out HNN.out,HR2.out,Bool.true_and] at h9;exact h9),HL6,hid (HT.out.below HW6.out hsz)⟩,by simp [intOf];omega⟩
  ·have HE:=hid (show Mist.fits ps ks=decide (m=0) by
    rw [← HF.out,List.drop_of_length_le (by rw [← HN.out];omega),← HM.out,Mist.fits]
    cases ks' <;> simp)
   go_wp2_with fail
   go_ret
   refine⟨ret_bool ?_,HL.out⟩
   rw [HE.out,Bool.eq_iff_iff]
   simp
end Go.Proofs.YthepmkjggfijoaaGreatDoor
namespace Go.Proofs.YthepmkjggfijoaaGreatDoor
open Go.RowKit Mist
attribute [local go_sem] ofL_extract ofL_size ofL_get ofL_bytes ofL_append
theorem shape_k1 (x:Bs) (n a:Int) (Ak:Option Addr) (nk ck:Nat) (w:World):Calls Tryz.prog 103 #[.agg #[.int .u8 1,.string (ofL x),.int .i64 n,.slice Ak nk ck,.int .i64 a]] w (ShapePost (Mist.shapeOf 1 n) w):=by
 go_enter Tryz.func103,Tryz.ntmps103
 go_wp2_with fail
 refine (just_expr _ _).mono ?_
 rintro e w1 ⟨rfl,hb1⟩
 go_wp2_with fail
 refine (just_expr _ _).mono ?_
 rintro e w2 ⟨rfl,hb2⟩
 go_wp2_with fail
 refine (just_expr _ _).mono ?_
 rintro e w3 ⟨rfl,hb3⟩
 obtain⟨hB0,hB1,hL3⟩:=pre_facts hb1 hb2 hb3
 have HL3:=hid hL3
 have HB1:=hid hB1
 have HB0:=hid hB0
 have hz:=hB1.lt
 clear hB0 hB1 hL3 hb1 hb2 hb3
 go_upto_region 5 with (fail)
 have HB5:=hid (show Blk (((((w3.alloc (.cells #[.int .i64 1,.int .i64 1,.func (.func 69) #[] #[]] 152)).alloc (.cells #[.int .i64 2,.int .i64 2,.func (.func 69) #[] #[]] 152)).alloc (.cells #[.int .i64 3,.int .i64 3,.func (.func 69) #[] #[]] 152)).alloc (.cells #[.int .i64 0,.int .i64 801,.func (.func 69) #[] #[]] 152)).alloc (.cells #[.int .i64 1,.int .i64 801,.func (.func 69) #[] #[]] 152)) (w.heap.size+1) 119 #[.bool false,.int .i64 0,.int .i64 0,.slice none 0 0] from by repeat (first | (with_reducible exact HB1.out) | (with_reducible refine Blk.alloc ?_ _)))
 have HP5:=hid (show Blk (((((w3.alloc (.cells #[.int .i64 1,.int .i64 1,.func (.func 69) #[] #[]] 152)).alloc (.cells #[.int .i64 2,.int .i64 2,.func (.func 69) #[] #[]] 152)).alloc (.cells #[.int .i64 3,.int .i64 3,.func (.func 69) #[] #[]] 152)).alloc (.cells #[.int .i64 0,.int .i64 801,.func (.func 69) #[] #[]] 152)).alloc (.cells #[.int .i64 1,.int .i64 801,.func (.func 69) #[] #[]] 152)) w.heap.size 50 #[.int .u8 1,.string (ofL x),.int .i64 n,.slice Ak nk ck,.int .i64 a] from by repeat (first | (with_reducible exact HB0.out) | (with_reducible refine Blk.alloc ?_ _)))
 have HL5:=hid (show Below w.heap.size w (((((w3.alloc (.cells #[.int .i64 1,.int .i64 1,.func (.func 69) #[] #[]] 152)).alloc (.cells #[.int .i64 2,.int .i64 2,.func (.func 69) #[] #[]] 152)).alloc (.cells #[.int .i64 3,.int .i64 3,.func (.func 69) #[] #[]] 152)).alloc (.cells #[.int .i64 0,.int .i64 801,.func (.func 69) #[] #[]] 152)).alloc (.cells #[.int .i64 1,.int .i64 801,.func (.func 69) #[] #[]] 152)) from by repeat (first | (with_reducible exact HL3.out) | (with_reducible refine bset ?_ ?_) | (with_reducible refine balloc ?_ ?_) | omega | (simp;omega)))
 have hs5:(((((w3.alloc (.cells #[.int .i64 1,.int .i64 1,.func (.func 69) #[] #[]] 152)).alloc (.cells #[.int .i64 2,.int .i64 2,.func (.func 69) #[] #[]] 152)).alloc (.cells #[.int .i64 3,.int .i64 3,.func (.func 69) #[] #[]] 152)).alloc (.cells #[.int .i64 0,.int .i64 801,.func (.func 69) #[] #[]] 152)).alloc (.cells #[.int .i64 1,.int .i64 801,.func (.func 69) #[] #[]] 152)).heap.size=w3.heap.size+1+1+1+1+1:=by simp
 generalize (((((w3.alloc (.cells #[.int .i64 1,.int .i64 1,.func (.func 69) #[] #[]] 152)).alloc (.cells #[.int .i64 2,.int .i64 2,.func (.func 69) #[] #[]] 152)).alloc (.cells #[.int .i64 3,.int .i64 3,.func (.func 69) #[] #[]] 152)).alloc (.cells #[.int .i64 0,.int .i64 801,.func (.func 69) #[] #[]] 152)).alloc (.cells #[.int .i64 1,.int .i64 801,.func (.func 69) #[] #[]] 152))=w5 at HB5 HP5 HL5 hs5 ⊢
 have p0:=HP5.out.cell 0
 have p2:=HP5.out.cell 2
 have hs7:w.heap.size+1 < w5.heap.size:=by omega
 have hs8:w.heap.size < w5.heap.size:=by omega
 have HS5:=hid hs5;clear hs5 hz
 have q0:=HB5.out.cell 0
 have q1:=HB5.out.cell 1
 have q2:=HB5.out.cell 2
 have q3:=HB5.out.cell 3
 have r0:=HB5.out.frozen 0
 have r1:=HB5.out.frozen 1
 have r2:=HB5.out.frozen 2
 have r3:=HB5.out.frozen 3
 go_wp2_with fail
 refine bodyPost_ret (v:=.tuple #[.agg #[.bool false,.int .i64 0,.int .i64 9999,.slice none 0 0],.bool true]) (by simp [results,Tryz.f103,go_sem,q0,q1,q2,q3]) rfl ?_
 refine⟨_,_,_,_,_,_,_,rfl,?_,rfl,rfl,rfl,rfl,rfl,Nat.le_refl _,?_⟩
 ·repeat (first | (with_reducible exact HL5.out) | (with_reducible refine bset ?_ ?_) | (with_reducible refine balloc ?_ ?_) | omega | (simp;omega))
 ·exact PartsIn.nil _
theorem shape_k2 (x:Bs) (n a:Int) (Ak:Option Addr) (nk ck:Nat) (w:World):Calls Tryz.prog 103 #[.agg #[.int .u8 2,.string (ofL x),.int .i64 n,.slice Ak nk ck,.int .i64 a]] w (ShapePost (Mist.shapeOf 2 n) w):=by
 go_enter Tryz.func103,Tryz.ntmps103
 go_wp2_with fail
 refine (just_expr _ _).mono ?_
 rintro e w1 ⟨rfl,hb1⟩
 go_wp2_with fail
 refine (just_expr _ _).mono ?_
 rintro e w2 ⟨rfl,hb2⟩
 go_wp2_with fail
 refine (just_expr _ _).mono ?_
 rintro e w3 ⟨rfl,hb3⟩
 obtain⟨hB0,hB1,hL3⟩:=pre_facts hb1 hb2 hb3
 have HL3:=hid hL3
 have HB1:=hid hB1
 have HB0:=hid hB0
 have hz:=hB1.lt
 clear hB0 hB1 hL3 hb1 hb2 hb3
 go_upto_region 5 with (fail)
 have HB5:=hid (show Blk (((((w3.alloc (.cells #[.int .i64 1,.int .i64 1,.func (.func 69) #[] #[]] 152)).alloc (.cells #[.int .i64 2,.int .i64 2,.func (.func 69) #[] #[]] 152)).alloc (.cells #[.int .i64 3,.int .i64 3,.func (.func 69) #[] #[]] 152)).alloc (.cells #[.int .i64 0,.int .i64 801,.func (.func 69) #[] #[]] 152)).alloc (.cells #[.int .i64 1,.int .i64 801,.func (.func 69) #[] #[]] 152)) (w.heap.size+1) 119 #[.bool false,.int .i64 0,.int .i64 0,.slice none 0 0] from by repeat (first | (with_reducible exact HB1.out) | (with_reducible refine Blk.alloc ?_ _)))
 have HP5:=hid (show Blk (((((w3.alloc (.cells #[.int .i64 1,.int .i64 1,.func (.func 69) #[] #[]] 152)).alloc (.cells #[.int .i64 2,.int .i64 2,.func (.func 69) #[] #[]] 152)).alloc (.cells #[.int .i64 3,.int .i64 3,.func (.func 69) #[] #[]] 152)).alloc (.cells #[.int .i64 0,.int .i64 801,.func (.func 69) #[] #[]] 152)).alloc (.cells #[.int .i64 1,.int .i64 801,.func (.func 69) #[] #[]] 152)) w.heap.size 50 #[.int .u8 2,.string (ofL x),.int .i64 n,.slice Ak nk ck,.int .i64 a] from by repeat (first | (with_reducible exact HB0.out) | (with_reducible refine Blk.alloc ?_ _)))
 have HL5:=hid (show Below w.heap.size w (((((w3.alloc (.cells #[.int .i64 1,.int .i64 1,.func (.func 69) #[] #[]] 152)).alloc (.cells #[.int .i64 2,.int .i64 2,.func (.func 69) #[] #[]] 152)).alloc (.cells #[.int .i64 3,.int .i64 3,.func (.func 69) #[] #[]] 152)).alloc (.cells #[.int .i64 0,.int .i64 801,.func (.func 69) #[] #[]] 152)).alloc (.cells #[.int .i64 1,.int .i64 801,.func (.func 69) #[] #[]] 152)) from by repeat (first | (with_reducible exact HL3.out) | (with_reducible refine bset ?_ ?_) | (with_reducible refine balloc ?_ ?_) | omega | (simp;omega)))
 have hs5:(((((w3.alloc (.cells #[.int .i64 1,.int .i64 1,.func (.func 69) #[] #[]] 152)).alloc (.cells #[.int .i64 2,.int .i64 2,.func (.func 69) #[] #[]] 152)).alloc (.cells #[.int .i64 3,.int .i64 3,.func (.func 69) #[] #[]] 152)).alloc (.cells #[.int .i64 0,.int .i64 801,.func (.func 69) #[] #[]] 152)).alloc (.cells #[.int .i64 1,.int .i64 801,.func (.func 69) #[] #[]] 152)).heap.size=w3.heap.size+1+1+1+1+1:=by simp
 generalize (((((w3.alloc (.cells #[.int .i64 1,.int .i64 1,.func (.func 69) #[] #[]] 152)).alloc (.cells #[.int .i64 2,.int .i64 2,.func (.func 69) #[] #[]] 152)).alloc (.cells #[.int .i64 3,.int .i64 3,.func (.func 69) #[] #[]] 152)).alloc (.cells #[.int .i64 0,.int .i64 801,.func (.func 69) #[] #[]] 152)).alloc (.cells #[.int .i64 1,.int .i64 801,.func (.func 69) #[] #[]] 152))=w5 at HB5 HP5 HL5 hs5 ⊢
 have p0:=HP5.out.cell 0
 have p2:=HP5.out.cell 2
 have hs7:w.heap.size+1 < w5.heap.size:=by omega
 have hs8:w.heap.size < w5.heap.size:=by omega
 have HS5:=hid hs5;clear hs5 hz
 have q0:=HB5.out.cell 0
 have q1:=HB5.out.cell 1
 have q2:=HB5.out.cell 2
 have q3:=HB5.out.cell 3
 have r0:=HB5.out.frozen 0
 have r1:=HB5.out.frozen 1
 have r2:=HB5.out.frozen 2
 have r3:=HB5.out.frozen 3
 go_wp2_with fail
 refine bodyPost_ret (v:=.tuple #[.agg #[.bool false,.int .i64 0,.int .i64 1,.slice none 0 0],.bool true]) (by simp [results,Tryz.f103,go_sem,q0,q1,q2,q3]) rfl ?_
 refine⟨_,_,_,_,_,_,_,rfl,?_,rfl,rfl,rfl,rfl,rfl,Nat.le_refl _,?_⟩
 ·repeat (first | (with_reducible exact HL5.out) | (with_reducible refine bset ?_ ?_) | (with_reducible refine balloc ?_ ?_) | omega | (simp;omega))
 ·exact PartsIn.nil _
theorem shape_k30 (x:Bs) (n a:Int) (Ak:Option Addr) (nk ck:Nat) (w:World):Calls Tryz.prog 103 #[.agg #[.int .u8 30,.string (ofL x),.int .i64 n,.slice Ak nk ck,.int .i64 a]] w (ShapePost (Mist.shapeOf 30 n) w):=by
 go_enter Tryz.func103,Tryz.ntmps103
 go_wp2_with fail
 refine (just_expr _ _).mono ?_
 rintro e w1 ⟨rfl,hb1⟩
 go_wp2_with fail
 refine (just_expr _ _).mono ?_
 rintro e w2 ⟨rfl,hb2⟩
 go_wp2_with fail
 refine (just_expr _ _).mono ?_
 rintro e w3 ⟨rfl,hb3⟩
 obtain⟨hB0,hB1,hL3⟩:=pre_facts hb1 hb2 hb3
 have HL3:=hid hL3
 have HB1:=hid hB1
 have HB0:=hid hB0
 have hz:=hB1.lt
 clear hB0 hB1 hL3 hb1 hb2 hb3
 go_upto_region 5 with (fail)
 have HB5:=hid (show Blk (((((w3.alloc (.cells #[.int .i64 1,.int .i64 1,.func (.func 69) #[] #[]] 152)).alloc (.cells #[.int .i64 2,.int .i64 2,.func (.func 69) #[] #[]] 152)).alloc (.cells #[.int .i64 3,.int .i64 3,.func (.func 69) #[] #[]] 152)).alloc (.cells #[.int .i64 0,.int .i64 801,.func (.func 69) #[] #[]] 152)).alloc (.cells #[.int .i64 1,.int .i64 801,.func (.func 69) #[] #[]] 152)) (w.heap.size+1) 119 #[.bool false,.int .i64 0,.int .i64 0,.slice none 0 0] from by repeat (first | (with_reducible exact HB1.out) | (with_reducible refine Blk.alloc ?_ _)))
 have HP5:=hid (show Blk (((((w3.alloc (.cells #[.int .i64 1,.int .i64 1,.func (.func 69) #[] #[]] 152)).alloc (.cells #[.int .i64 2,.int .i64 2,.func (.func 69) #[] #[]] 152)).alloc (.cells #[.int .i64 3,.int .i64 3,.func (.func 69) #[] #[]] 152)).alloc (.cells #[.int .i64 0,.int .i64 801,.func (.func 69) #[] #[]] 152)).alloc (.cells #[.int .i64 1,.int .i64 801,.func (.func 69) #[] #[]] 152)) w.heap.size 50 #[.int .u8 30,.string (ofL x),.int .i64 n,.slice Ak nk ck,.int .i64 a] from by repeat (first | (with_reducible exact HB0.out) | (with_reducible refine Blk.alloc ?_ _)))
 have HL5:=hid (show Below w.heap.size w (((((w3.alloc (.cells #[.int .i64 1,.int .i64 1,.func (.func 69) #[] #[]] 152)).alloc (.cells #[.int .i64 2,.int .i64 2,.func (.func 69) #[] #[]] 152)).alloc (.cells #[.int .i64 3,.int .i64 3,.func (.func 69) #[] #[]] 152)).alloc (.cells #[.int .i64 0,.int .i64 801,.func (.func 69) #[] #[]] 152)).alloc (.cells #[.int .i64 1,.int .i64 801,.func (.func 69) #[] #[]] 152)) from by repeat (first | (with_reducible exact HL3.out) | (with_reducible refine bset ?_ ?_) | (with_reducible refine balloc ?_ ?_) | omega | (simp;omega)))
 have hs5:(((((w3.alloc (.cells #[.int .i64 1,.int .i64 1,.func (.func 69) #[] #[]] 152)).alloc (.cells #[.int .i64 2,.int .i64 2,.func (.func 69) #[] #[]] 152)).alloc (.cells #[.int .i64 3,.int .i64 3,.func (.func 69) #[] #[]] 152)).alloc (.cells #[.int .i64 0,.int .i64 801,.func (.func 69) #[] #[]] 152)).alloc (.cells #[.int .i64 1,.int .i64 801,.func (.func 69) #[] #[]] 152)).heap.size=w3.heap.size+1+1+1+1+1:=by simp
 generalize (((((w3.alloc (.cells #[.int .i64 1,.int .i64 1,.func (.func 69) #[] #[]] 152)).alloc (.cells #[.int .i64 2,.int .i64 2,.func (.func 69) #[] #[]] 152)).alloc (.cells #[.int .i64 3,.int .i64 3,.func (.func 69) #[] #[]] 152)).alloc (.cells #[.int .i64 0,.int .i64 801,.func (.func 69) #[] #[]] 152)).alloc (.cells #[.int .i64 1,.int .i64 801,.func (.func 69) #[] #[]] 152))=w5 at HB5 HP5 HL5 hs5 ⊢
 have p0:=HP5.out.cell 0
 have p2:=HP5.out.cell 2
 have hs7:w.heap.size+1 < w5.heap.size:=by omega
 have hs8:w.heap.size < w5.heap.size:=by omega
 have HS5:=hid hs5;clear hs5 hz
 have q0:=HB5.out.cell 0
 have q1:=HB5.out.cell 1
 have q2:=HB5.out.cell 2
 have q3:=HB5.out.cell 3
 have r0:=HB5.out.frozen 0
 have r1:=HB5.out.frozen 1
 have r2:=HB5.out.frozen 2
 have r3:=HB5.out.frozen 3
 go_wp2_with fail
 refine bodyPost_ret (v:=.tuple #[.agg #[.bool false,.int .i64 0,.int .i64 0,.slice none 0 0],.bool true]) (by simp [results,Tryz.f103,go_sem,q0,q1,q2,q3]) rfl ?_
 refine⟨_,_,_,_,_,_,_,rfl,?_,rfl,rfl,rfl,rfl,rfl,Nat.le_refl _,?_⟩
 ·repeat (first | (with_reducible exact HL5.out) | (with_reducible refine bset ?_ ?_) | (with_reducible refine balloc ?_ ?_) | omega | (simp;omega))
 ·exact PartsIn.nil _
theorem shape_k31 (x:Bs) (n a:Int) (Ak:Option Addr) (nk ck:Nat) (w:World):Calls Tryz.prog 103 #[.agg #[.int .u8 31,.string (ofL x),.int .i64 n,.slice Ak nk ck,.int .i64 a]] w (ShapePost (Mist.shapeOf 31 n) w):=by
 go_enter Tryz.func103,Tryz.ntmps103
 go_wp2_with fail
 refine (just_expr _ _).mono ?_
 rintro e w1 ⟨rfl,hb1⟩
 go_wp2_with fail
 refine (just_expr _ _).mono ?_
 rintro e w2 ⟨rfl,hb2⟩
 go_wp2_with fail
 refine (just_expr _ _).mono ?_
 rintro e w3 ⟨rfl,hb3⟩
 obtain⟨hB0,hB1,hL3⟩:=pre_facts hb1 hb2 hb3
 have HL3:=hid hL3
 have HB1:=hid hB1
 have HB0:=hid hB0
 have hz:=hB1.lt
 clear hB0 hB1 hL3 hb1 hb2 hb3
 go_upto_region 5 with (fail)
 have HB5:=hid (show Blk (((((w3.alloc (.cells #[.int .i64 1,.int .i64 1,.func (.func 69) #[] #[]] 152)).alloc (.cells #[.int .i64 2,.int .i64 2,.func (.func 69) #[] #[]] 152)).alloc (.cells #[.int .i64 3,.int .i64 3,.func (.func 69) #[] #[]] 152)).alloc (.cells #[.int .i64 0,.int .i64 801,.func (.func 69) #[] #[]] 152)).alloc (.cells #[.int .i64 1,.int .i64 801,.func (.func 69) #[] #[]] 152)) (w.heap.size+1) 119 #[.bool false,.int .i64 0,.int .i64 0,.slice none 0 0] from by repeat (first | (with_reducible exact HB1.out) | (with_reducible refine Blk.alloc ?_ _)))
 have HP5:=hid (show Blk (((((w3.alloc (.cells #[.int .i64 1,.int .i64 1,.func (.func 69) #[] #[]] 152)).alloc (.cells #[.int .i64 2,.int .i64 2,.func (.func 69) #[] #[]] 152)).alloc (.cells #[.int .i64 3,.int .i64 3,.func (.func 69) #[] #[]] 152)).alloc (.cells #[.int .i64 0,.int .i64 801,.func (.func 69) #[] #[]] 152)).alloc (.cells #[.int .i64 1,.int .i64 801,.func (.func 69) #[] #[]] 152)) w.heap.size 50 #[.int .u8 31,.string (ofL x),.int .i64 n,.slice Ak nk ck,.int .i64 a] from by repeat (first | (with_reducible exact HB0.out) | (with_reducible refine Blk.alloc ?_ _)))
 have HL5:=hid (show Below w.heap.size w (((((w3.alloc (.cells #[.int .i64 1,.int .i64 1,.func (.func 69) #[] #[]] 152)).alloc (.cells #[.int .i64 2,.int .i64 2,.func (.func 69) #[] #[]] 152)).alloc (.cells #[.int .i64 3,.int .i64 3,.func (.func 69) #[] #[]] 152)).alloc (.cells #[.int .i64 0,.int .i64 801,.func (.func 69) #[] #[]] 152)).alloc (.cells #[.int .i64 1,.int .i64 801,.func (.func 69) #[] #[]] 152)) from by repeat (first | (with_reducible exact HL3.out) | (with_reducible refine bset ?_ ?_) | (with_reducible refine balloc ?_ ?_) | omega | (simp;omega)))
 have hs5:(((((w3.alloc (.cells #[.int .i64 1,.int .i64 1,.func (.func 69) #[] #[]] 152)).alloc (.cells #[.int .i64 2,.int .i64 2,.func (.func 69) #[] #[]] 152)).alloc (.cells #[.int .i64 3,.int .i64 3,.func (.func 69) #[] #[]] 152)).alloc (.cells #[.int .i64 0,.int .i64 801,.func (.func 69) #[] #[]] 152)).alloc (.cells #[.int .i64 1,.int .i64 801,.func (.func 69) #[] #[]] 152)).heap.size=w3.heap.size+1+1+1+1+1:=by simp
 generalize (((((w3.alloc (.cells #[.int .i64 1,.int .i64 1,.func (.func 69) #[] #[]] 152)).alloc (.cells #[.int .i64 2,.int .i64 2,.func (.func 69) #[] #[]] 152)).alloc (.cells #[.int .i64 3,.int .i64 3,.func (.func 69) #[] #[]] 152)).alloc (.cells #[.int .i64 0,.int .i64 801,.func (.func 69) #[] #[]] 152)).alloc (.cells #[.int .i64 1,.int .i64 801,.func (.func 69) #[] #[]] 152))=w5 at HB5 HP5 HL5 hs5 ⊢
 have p0:=HP5.out.cell 0
 have p2:=HP5.out.cell 2
 have hs7:w.heap.size+1 < w5.heap.size:=by omega
 have hs8:w.heap.size < w5.heap.size:=by omega
 have HS5:=hid hs5;clear hs5 hz
 have q0:=HB5.out.cell 0
 have q1:=HB5.out.cell 1
 have q2:=HB5.out.cell 2
 have q3:=HB5.out.cell 3
 have r0:=HB5.out.frozen 0
 have r1:=HB5.out.frozen 1
 have r2:=HB5.out.frozen 2
 have r3:=HB5.out.frozen 3
 go_wp2_with fail
 refine bodyPost_ret (v:=.tuple #[.agg #[.bool false,.int .i64 0,.int .i64 0,.slice none 0 0],.bool true]) (by simp [results,Tryz.f103,go_sem,q0,q1,q2,q3]) rfl ?_
 refine⟨_,_,_,_,_,_,_,rfl,?_,rfl,rfl,rfl,rfl,rfl,Nat.le_refl _,?_⟩
 ·repeat (first | (with_reducible exact HL5.out) | (with_reducible refine bset ?_ ?_) | (with_reducible refine balloc ?_ ?_) | omega | (simp;omega))
 ·exact PartsIn.nil _
theorem shape_k3 (x:Bs) (n a:Int) (Ak:Option Addr) (nk ck:Nat) (w:World):Calls Tryz.prog 103 #[.agg #[.int .u8 3,.string (ofL x),.int .i64 n,.slice Ak nk ck,.int .i64 a]] w (ShapePost (Mist.shapeOf 3 n) w):=by
 go_enter Tryz.func103,Tryz.ntmps103
 go_wp2_with fail
 refine (just_expr _ _).mono ?_
 rintro e w1 ⟨rfl,hb1⟩
 go_wp2_with fail
 refine (just_expr _ _).mono ?_
 rintro e w2 ⟨rfl,hb2⟩
 go_wp2_with fail
 refine (just_expr _ _).mono ?_
 rintro e w3 ⟨rfl,hb3⟩
 obtain⟨hB0,hB1,hL3⟩:=pre_facts hb1 hb2 hb3
 have HL3:=hid hL3
 have HB1:=hid hB1
 have HB0:=hid hB0
 have hz:=hB1.lt
 clear hB0 hB1 hL3 hb1 hb2 hb3
 go_upto_region 5 with (fail)
 have HB5:=hid (show Blk (((((w3.alloc (.cells #[.int .i64 1,.int .i64 1,.func (.func 69) #[] #[]] 152)).alloc (.cells #[.int .i64 2,.int .i64 2,.func (.func 69) #[] #[]] 152)).alloc (.cells #[.int .i64 3,.int .i64 3,.func (.func 69) #[] #[]] 152)).alloc (.cells #[.int .i64 0,.int .i64 801,.func (.func 69) #[] #[]] 152)).alloc (.cells #[.int .i64 1,.int .i64 801,.func (.func 69) #[] #[]] 152)) (w.heap.size+1) 119 #[.bool false,.int .i64 0,.int .i64 0,.slice none 0 0] from by repeat (first | (with_reducible exact HB1.out) | (with_reducible refine Blk.alloc ?_ _)))
 have HP5:=hid (show Blk (((((w3.alloc (.cells #[.int .i64 1,.int .i64 1,.func (.func 69) #[] #[]] 152)).alloc (.cells #[.int .i64 2,.int .i64 2,.func (.func 69) #[] #[]] 152)).alloc (.cells #[.int .i64 3,.int .i64 3,.func (.func 69) #[] #[]] 152)).alloc (.cells #[.int .i64 0,.int .i64 801,.func (.func 69) #[] #[]] 152)).alloc (.cells #[.int .i64 1,.int .i64 801,.func (.func 69) #[] #[]] 152)) w.heap.size 50 #[.int .u8 3,.string (ofL x),.int .i64 n,.slice Ak nk ck,.int .i64 a] from by repeat (first | (with_reducible exact HB0.out) | (with_reducible refine Blk.alloc ?_ _)))
 have HL5:=hid (show Below w.heap.size w (((((w3.alloc (.cells #[.int .i64 1,.int .i64 1,.func (.func 69) #[] #[]] 152)).alloc (.cells #[.int .i64 2,.int .i64 2,.func (.func 69) #[] #[]] 152)).alloc (.cells #[.int .i64 3,.int .i64 3,.func (.func 69) #[] #[]] 152)).alloc (.cells #[.int .i64 0,.int .i64 801,.func (.func 69) #[] #[]] 152)).alloc (.cells #[.int .i64 1,.int .i64 801,.func (.func 69) #[] #[]] 152)) from by repeat (first | (with_reducible exact HL3.out) | (with_reducible refine bset ?_ ?_) | (with_reducible refine balloc ?_ ?_) | omega | (simp;omega)))
 have hs5:(((((w3.alloc (.cells #[.int .i64 1,.int .i64 1,.func (.func 69) #[] #[]] 152)).alloc (.cells #[.int .i64 2,.int .i64 2,.func (.func 69) #[] #[]] 152)).alloc (.cells #[.int .i64 3,.int .i64 3,.func (.func 69) #[] #[]] 152)).alloc (.cells #[.int .i64 0,.int .i64 801,.func (.func 69) #[] #[]] 152)).alloc (.cells #[.int .i64 1,.int .i64 801,.func (.func 69) #[] #[]] 152)).heap.size=w3.heap.size+1+1+1+1+1:=by simp
 generalize (((((w3.alloc (.cells #[.int .i64 1,.int .i64 1,.func (.func 69) #[] #[]] 152)).alloc (.cells #[.int .i64 2,.int .i64 2,.func (.func 69) #[] #[]] 152)).alloc (.cells #[.int .i64 3,.int .i64 3,.func (.func 69) #[] #[]] 152)).alloc (.cells #[.int .i64 0,.int .i64 801,.func (.func 69) #[] #[]] 152)).alloc (.cells #[.int .i64 1,.int .i64 801,.func (.func 69) #[] #[]] 152))=w5 at HB5 HP5 HL5 hs5 ⊢
 have p0:=HP5.out.cell 0
 have p2:=HP5.out.cell 2
 have hs7:w.heap.size+1 < w5.heap.size:=by omega
 have hs8:w.heap.size < w5.heap.size:=by omega
 have HS5:=hid hs5;clear hs5 hz
 have q0:=HB5.out.cell 0
 have q1:=HB5.out.cell 1
 have q2:=HB5.out.cell 2
 have q3:=HB5.out.cell 3
 have r0:=HB5.out.frozen 0
 have r1:=HB5.out.frozen 1
 have r2:=HB5.out.frozen 2
 have r3:=HB5.out.frozen 3
 go_wp2_with fail
 refine (parts_2 _ _ _ _).mono ?_
 rintro e w6 ⟨rfl,hb6⟩
 have HB6:=hid (show Blk w6 (w.heap.size+1) 119 #[.bool false,.int .i64 0,.int .i64 0,.slice none 0 0] from Blk.below (by repeat (first | (with_reducible exact HB5.out) | (with_reducible refine Blk.alloc ?_ _))) hb6 (by first | omega | (simp;omega)))
 have HL6:=hid (show Below w.heap.size w w6 from Below.trans (by repeat (first | (with_reducible exact HL5.out) | (with_reducible refine bset ?_ ?_) | (with_reducible refine balloc ?_ ?_) | omega | (simp;omega))) (hb6.mono (by first | omega | (simp;omega))))
 clear hb6
 clear q0 q1 q2 q3 r0 r1 r2 r3
 have q0:=HB6.out.cell 0
 have q1:=HB6.out.cell 1
 have q2:=HB6.out.cell 2
 have q3:=HB6.out.cell 3
 have r0:=HB6.out.frozen 0
 have r1:=HB6.out.frozen 1
 have r2:=HB6.out.frozen 2
 have r3:=HB6.out.frozen 3
 go_wp2_with fail
 refine bodyPost_ret (v:=.tuple #[.agg #[.bool true,.int .i64 0,.int .i64 0,.slice none 0 0],.bool true]) (by simp [results,Tryz.f103,go_sem,q0,q1,q2,q3]) rfl ?_
 refine⟨_,_,_,_,_,_,_,rfl,?_,rfl,rfl,rfl,rfl,rfl,Nat.le_refl _,?_⟩
 ·repeat (first | (with_reducible exact HL6.out) | (with_reducible refine bset ?_ ?_) | (with_reducible refine balloc ?_ ?_) | omega | (simp;omega))
 ·exact PartsIn.nil _
theorem shape_k32 (x:Bs) (n a:Int) (Ak:Option Addr) (nk ck:Nat) (w:World):Calls Tryz.prog 103 #[.agg #[.int .u8 32,.string (ofL x),.int .i64 n,.slice Ak nk ck,.int .i64 a]] w (ShapePost (Mist.shapeOf 32 n) w):=by
 go_enter Tryz.func103,Tryz.ntmps103
 go_wp2_with fail
 refine (just_expr _ _).mono ?_
 rintro e w1 ⟨rfl,hb1⟩
 go_wp2_with fail
 refine (just_expr _ _).mono ?_
 rintro e w2 ⟨rfl,hb2⟩
 go_wp2_with fail
 refine (just_expr _ _).mono ?_
 rintro e w3 ⟨rfl,hb3⟩
 obtain⟨hB0,hB1,hL3⟩:=pre_facts hb1 hb2 hb3
 have HL3:=hid hL3
 have HB1:=hid hB1
 have HB0:=hid hB0
 have hz:=hB1.lt
 clear hB0 hB1 hL3 hb1 hb2 hb3
 go_upto_region 5 with (fail)
 have HB5:=hid (show Blk (((((w3.alloc (.cells #[.int .i64 1,.int .i64 1,.func (.func 69) #[] #[]] 152)).alloc (.cells #[.int .i64 2,.int .i64 2,.func (.func 69) #[] #[]] 152)).alloc (.cells #[.int .i64 3,.int .i64 3,.func (.func 69) #[] #[]] 152)).alloc (.cells #[.int .i64 0,.int .i64 801,.func (.func 69) #[] #[]] 152)).alloc (.cells #[.int .i64 1,.int .i64 801,.func (.func 69) #[] #[]] 152)) (w.heap.size+1) 119 #[.bool false,.int .i64 0,.int .i64 0,.slice none 0 0] from by repeat (first | (with_reducible exact HB1.out) | (with_reducible refine Blk.alloc ?_ _)))
 have HP5:=hid (show Blk (((((w3.alloc (.cells #[.int .i64 1,.int .i64 1,.func (.func 69) #[] #[]] 152)).alloc (.cells #[.int .i64 2,.int .i64 2,.func (.func 69) #[] #[]] 152)).alloc (.cells #[.int .i64 3,.int .i64 3,.func (.func 69) #[] #[]] 152)).alloc (.cells #[.int .i64 0,.int .i64 801,.func (.func 69) #[] #[]] 152)).alloc (.cells #[.int .i64 1,.int .i64 801,.func (.func 69) #[] #[]] 152)) w.heap.size 50 #[.int .u8 32,.string (ofL x),.int .i64 n,.slice Ak nk ck,.int .i64 a] from by repeat (first | (with_reducible exact HB0.out) | (with_reducible refine Blk.alloc ?_ _)))
 have HL5:=hid (show Below w.heap.size w (((((w3.alloc (.cells #[.int .i64 1,.int .i64 1,.func (.func 69) #[] #[]] 152)).alloc (.cells #[.int .i64 2,.int .i64 2,.func (.func 69) #[] #[]] 152)).alloc (.cells #[.int .i64 3,.int .i64 3,.func (.func 69) #[] #[]] 152)).alloc (.cells #[.int .i64 0,.int .i64 801,.func (.func 69) #[] #[]] 152)).alloc (.cells #[.int .i64 1,.int .i64 801,.func (.func 69) #[] #[]] 152)) from by repeat (first | (with_reducible exact HL3.out) | (with_reducible refine bset ?_ ?_) | (with_reducible refine balloc ?_ ?_) | omega | (simp;omega)))
 have hs5:(((((w3.alloc (.cells #[.int .i64 1,.int .i64 1,.func (.func 69) #[] #[]] 152)).alloc (.cells #[.int .i64 2,.int .i64 2,.func (.func 69) #[] #[]] 152)).alloc (.cells #[.int .i64 3,.int .i64 3,.func (.func 69) #[] #[]] 152)).alloc (.cells #[.int .i64 0,.int .i64 801,.func (.func 69) #[] #[]] 152)).alloc (.cells #[.int .i64 1,.int .i64 801,.func (.func 69) #[] #[]] 152)).heap.size=w3.heap.size+1+1+1+1+1:=by simp
 generalize (((((w3.alloc (.cells #[.int .i64 1,.int .i64 1,.func (.func 69) #[] #[]] 152)).alloc (.cells #[.int .i64 2,.int .i64 2,.func (.func 69) #[] #[]] 152)).alloc (.cells #[.int .i64 3,.int .i64 3,.func (.func 69) #[] #[]] 152)).alloc (.cells #[.int .i64 0,.int .i64 801,.func (.func 69) #[] #[]] 152)).alloc (.cells #[.int .i64 1,.int .i64 801,.func (.func 69) #[] #[]] 152))=w5 at HB5 HP5 HL5 hs5 ⊢
 have p0:=HP5.out.cell 0
 have p2:=HP5.out.cell 2
 have hs7:w.heap.size+1 < w5.heap.size:=by omega
 have hs8:w.heap.size < w5.heap.size:=by omega
 have HS5:=hid hs5;clear hs5 hz
 have q0:=HB5.out.cell 0
 have q1:=HB5.out.cell 1
 have q2:=HB5.out.cell 2
 have q3:=HB5.out.cell 3
 have r0:=HB5.out.frozen 0
 have r1:=HB5.out.frozen 1
 have r2:=HB5.out.frozen 2
 have r3:=HB5.out.frozen 3
 go_wp2_with fail
 refine (parts_2 _ _ _ _).mono ?_
 rintro e w6 ⟨rfl,hb6⟩
 have HB6:=hid (show Blk w6 (w.heap.size+1) 119 #[.bool false,.int .i64 0,.int .i64 0,.slice none 0 0] from Blk.below (by repeat (first | (with_reducible exact HB5.out) | (with_reducible refine Blk.alloc ?_ _))) hb6 (by first | omega | (simp;omega)))
 have HL6:=hid (show Below w.heap.size w w6 from Below.trans (by repeat (first | (with_reducible exact HL5.out) | (with_reducible refine bset ?_ ?_) | (with_reducible refine balloc ?_ ?_) | omega | (simp;omega))) (hb6.mono (by first | omega | (simp;omega))))
 clear hb6
 clear q0 q1 q2 q3 r0 r1 r2 r3
 have q0:=HB6.out.cell 0
 have q1:=HB6.out.cell 1
 have q2:=HB6.out.cell 2
 have q3:=HB6.out.cell 3
 have r0:=HB6.out.frozen 0
 have r1:=HB6.out.frozen 1
 have r2:=HB6.out.frozen 2
 have r3:=HB6.out.frozen 3
 go_wp2_with fail
 refine bodyPost_ret (v:=.tuple #[.agg #[.bool true,.int .i64 0,.int .i64 0,.slice none 0 0],.bool true]) (by simp [results,Tryz.f103,go_sem,q0,q1,q2,q3]) rfl ?_
 refine⟨_,_,_,_,_,_,_,rfl,?_,rfl,rfl,rfl,rfl,rfl,Nat.le_refl _,?_⟩
 ·repeat (first | (with_reducible exact HL6.out) | (with_reducible refine bset ?_ ?_) | (with_reducible refine balloc ?_ ?_) | omega | (simp;omega))
 ·exact PartsIn.nil _
theorem shape_k45 (x:Bs) (n a:Int) (Ak:Option Addr) (nk ck:Nat) (w:World):Calls Tryz.prog 103 #[.agg #[.int .u8 45,.string (ofL x),.int .i64 n,.slice Ak nk ck,.int .i64 a]] w (ShapePost (Mist.shapeOf 45 n) w):=by
 go_enter Tryz.func103,Tryz.ntmps103
 go_wp2_with fail
 refine (just_expr _ _).mono ?_
 rintro e w1 ⟨rfl,hb1⟩
 go_wp2_with fail
 refine (just_expr _ _).mono ?_
 rintro e w2 ⟨rfl,hb2⟩
 go_wp2_with fail
 refine (just_expr _ _).mono ?_
 rintro e w3 ⟨rfl,hb3⟩
 obtain⟨hB0,hB1,hL3⟩:=pre_facts hb1 hb2 hb3
 have HL3:=hid hL3
 have HB1:=hid hB1
 have HB0:=hid hB0
 have hz:=hB1.lt
 clear hB0 hB1 hL3 hb1 hb2 hb3
 go_upto_region 5 with (fail)
 have HB5:=hid (show Blk (((((w3.alloc (.cells #[.int .i64 1,.int .i64 1,.func (.func 69) #[] #[]] 152)).alloc (.cells #[.int .i64 2,.int .i64 2,.func (.func 69) #[] #[]] 152)).alloc (.cells #[.int .i64 3,.int .i64 3,.func (.func 69) #[] #[]] 152)).alloc (.cells #[.int .i64 0,.int .i64 801,.func (.func 69) #[] #[]] 152)).alloc (.cells #[.int .i64 1,.int .i64 801,.func (.func 69) #[] #[]] 152)) (w.heap.size+1) 119 #[.bool false,.int .i64 0,.int .i64 0,.slice none 0 0] from by repeat (first | (with_reducible exact HB1.out) | (with_reducible refine Blk.alloc ?_ _)))
 have HP5:=hid (show Blk (((((w3.alloc (.cells #[.int .i64 1,.int .i64 1,.func (.func 69) #[] #[]] 152)).alloc (.cells #[.int .i64 2,.int .i64 2,.func (.func 69) #[] #[]] 152)).alloc (.cells #[.int .i64 3,.int .i64 3,.func (.func 69) #[] #[]] 152)).alloc (.cells #[.int .i64 0,.int .i64 801,.func (.func 69) #[] #[]] 152)).alloc (.cells #[.int .i64 1,.int .i64 801,.func (.func 69) #[] #[]] 152)) w.heap.size 50 #[.int .u8 45,.string (ofL x),.int .i64 n,.slice Ak nk ck,.int .i64 a] from by repeat (first | (with_reducible exact HB0.out) | (with_reducible refine Blk.alloc ?_ _)))
 have HL5:=hid (show Below w.heap.size w (((((w3.alloc (.cells #[.int .i64 1,.int .i64 1,.func (.func 69) #[] #[]] 152)).alloc (.cells #[.int .i64 2,.int .i64 2,.func (.func 69) #[] #[]] 152)).alloc (.cells #[.int .i64 3,.int .i64 3,.func (.func 69) #[] #[]] 152)).alloc (.cells #[.int .i64 0,.int .i64 801,.func (.func 69) #[] #[]] 152)).alloc (.cells #[.int .i64 1,.int .i64 801,.func (.func 69) #[] #[]] 152)) from by repeat (first | (with_reducible exact HL3.out) | (with_reducible refine bset ?_ ?_) | (with_reducible refine balloc ?_ ?_) | omega | (simp;omega)))
 have hs5:(((((w3.alloc (.cells #[.int .i64 1,.int .i64 1,.func (.func 69) #[] #[]] 152)).alloc (.cells #[.int .i64 2,.int .i64 2,.func (.func 69) #[] #[]] 152)).alloc (.cells #[.int .i64 3,.int .i64 3,.func (.func 69) #[] #[]] 152)).alloc (.cells #[.int .i64 0,.int .i64 801,.func (.func 69) #[] #[]] 152)).alloc (.cells #[.int .i64 1,.int .i64 801,.func (.func 69) #[] #[]] 152)).heap.size=w3.heap.size+1+1+1+1+1:=by simp
 generalize (((((w3.alloc (.cells #[.int .i64 1,.int .i64 1,.func (.func 69) #[] #[]] 152)).alloc (.cells #[.int .i64 2,.int .i64 2,.func (.func 69) #[] #[]] 152)).alloc (.cells #[.int .i64 3,.int .i64 3,.func (.func 69) #[] #[]] 152)).alloc (.cells #[.int .i64 0,.int .i64 801,.func (.func 69) #[] #[]] 152)).alloc (.cells #[.int .i64 1,.int .i64 801,.func (.func 69) #[] #[]] 152))=w5 at HB5 HP5 HL5 hs5 ⊢
 have p0:=HP5.out.cell 0
 have p2:=HP5.out.cell 2
 have hs7:w.heap.size+1 < w5.heap.size:=by omega
 have hs8:w.heap.size < w5.heap.size:=by omega
 have HS5:=hid hs5;clear hs5 hz
 have q0:=HB5.out.cell 0
 have q1:=HB5.out.cell 1
 have q2:=HB5.out.cell 2
 have q3:=HB5.out.cell 3
 have r0:=HB5.out.frozen 0
 have r1:=HB5.out.frozen 1
 have r2:=HB5.out.frozen 2
 have r3:=HB5.out.frozen 3
 go_wp2_with fail
 refine (parts_2 _ _ _ _).mono ?_
 rintro e w6 ⟨rfl,hb6⟩
 have HB6:=hid (show Blk w6 (w.heap.size+1) 119 #[.bool false,.int .i64 0,.int .i64 0,.slice none 0 0] from Blk.below (by repeat (first | (with_reducible exact HB5.out) | (with_reducible refine Blk.alloc ?_ _))) hb6 (by first | omega | (simp;omega)))
 have HL6:=hid (show Below w.heap.size w w6 from Below.trans (by repeat (first | (with_reducible exact HL5.out) | (with_reducible refine bset ?_ ?_) | (with_reducible refine balloc ?_ ?_) | omega | (simp;omega))) (hb6.mono (by first | omega | (simp;omega))))
 clear hb6
 clear q0 q1 q2 q3 r0 r1 r2 r3
 have q0:=HB6.out.cell 0
 have q1:=HB6.out.cell 1
 have q2:=HB6.out.cell 2
 have q3:=HB6.out.cell 3
 have r0:=HB6.out.frozen 0
 have r1:=HB6.out.frozen 1
 have r2:=HB6.out.frozen 2
 have r3:=HB6.out.frozen 3
 go_wp2_with fail
 refine bodyPost_ret (v:=.tuple #[.agg #[.bool true,.int .i64 0,.int .i64 0,.slice none 0 0],.bool true]) (by simp [results,Tryz.f103,go_sem,q0,q1,q2,q3]) rfl ?_
 refine⟨_,_,_,_,_,_,_,rfl,?_,rfl,rfl,rfl,rfl,rfl,Nat.le_refl _,?_⟩
 ·repeat (first | (with_reducible exact HL6.out) | (with_reducible refine bset ?_ ?_) | (with_reducible refine balloc ?_ ?_) | omega | (simp;omega))
 ·exact PartsIn.nil _
end Go.Proofs.YthepmkjggfijoaaGreatDoor
