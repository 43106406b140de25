/-
  A part of the proof.
-/
import Derived.Test.YthepmkjggfijoaaGreatDoorSA
import Derived.Deep.Cut
import Derived.Test.YthepmkjggfijoaaGreatDoorS22
set_option linter.all false
set_option maxRecDepth 100000
set_option maxHeartbeats 4000000
open Go.Lib (hid)
namespace Go.Proofs.YthepmkjggfijoaaGreatDoor
open Go.RowKit Mist
theorem Ph (l:List Part)(p:Part):lM (l ++ [p])=lM l+p.least:=by simp [lM]
theorem Md {l M:Int}{pd:Pd}{r:List Part}{ks:List Nat}{m:Nat}{rs:Int}(h:Mist.within ((m:Int) - rs) l M=false)(hm:ks.length=m)(hr:rs=lM r):Mist.fits (⟨l,M,pd⟩ :: r) ks=false:=by
 rw [Mist.fits];subst hm;subst hr;rw [h];rfl
theorem zC {l M:Int}{pd:Pd}{r:List Part}{ks:List Nat}{m nn:Nat}{rs:Int}(h:Mist.within ((m:Int) - rs) l M=true)(hm:ks.length=m)(hr:rs=lM r)(hn:(m:Int) - rs=(nn:Int)):Mist.fits (⟨l,M,pd⟩ :: r) ks=((ks.take nn).all pd.is && Mist.fits r (ks.drop nn)):=by
 rw [Mist.fits];subst hm;subst hr;rw [h,Bool.true_and,hn,aaQ]
def zy (ps:List Part):Prop:=ps.length≤3∧∀ p ∈ ps,0≤p.least∧p.least≤801∧0≤p.most∧p.most≤801
theorem Zr (nm:Bool)(lo hi:Int)(ps:List Part)(A:Option Addr)(c:Nat)(ks:List Nat)(K:Option Addr)(kc:Nat)(w:World)(hP:dS w A ps)(hpc:ps.length≤c)(hR:zy ps)(hK:jY w K ks)(hl:ks.length≤1000000)(hkc:ks.length≤kc) :
  Calls Tryz.prog 105 #[.agg #[.bool nm,.int .i64 lo,.int .i64 hi,.slice A ps.length c],.slice K ks.length kc] w fun e w'=>e=.returned (.bool (Mist.fits ps ks))∧Below w.heap.size w w':=by
 obtain⟨n,hn⟩:∃ n,n=ps.length:=⟨_,rfl⟩;obtain⟨m0,hm0⟩:∃ m,m=ks.length:=⟨_,rfl⟩;have hn3:n≤3:=by rw [hn];exact hR.1
 rw [← hn] at hpc ⊢
 rw [← hm0] at hl hkc ⊢
 have HN:=hid hn;clear hn;have HM:=hid hm0;clear hm0;have HP:=hid hP;clear hP;have HR:=hid hR;clear hR;have HK:=hid hK;clear hK;go_in
 go_wp2_with fail;have HT:=hid (aC.new w 119 #[.bool nm,.int .i64 lo,.int .i64 hi,.slice A n c]);have eH:=hid (ah (Below.refl w.heap.size w) (aaJ _) (o:=.cells #[.bool nm,.int .i64 lo,.int .i64 hi,.slice A n c] 119));go_loopw [1,14] (fun v i wr=>∃ (k m kc':Nat) (ks':List Nat) (K':Option Addr),k≤n∧i=.int .i64 k∧v=.slice K' m kc'∧m≤kc'∧m≤1000000∧Hid (ks'.length=m)∧Hid (jY wr K' ks')∧Hid (Mist.fits (ps.drop k) ks'=Mist.fits ps ks)∧Hid (Below w.heap.size w wr)∧Hid (aC wr w.heap.size 119 #[.bool nm,.int .i64 lo,.int .i64 hi,.slice A n c])) (fun _ i _=>n - (intOf i).toNat)
 case atStart=>exact⟨0,m0,kc,ks,K,aaL _,rfl,rfl,hkc,hl,hid HM.out.symm,hid (HK.out.below eH.out),hid rfl,eH,HT⟩
 case round =>
  clear HT eH HK HM hl hkc;obtain⟨k,m,kc',ks',K',hk,rfl,rfl,hmc,hm6,HM,HK,HF,HL,HT⟩:=hrel;obtain⟨wo,rfl⟩:∃ wo:World,wo=wr:=⟨_,rfl⟩;have t3:=HT.out.cell 3;have hsz:=HT.out.lt;by_cases hlt:k < n
  ·obtain⟨b,rfl,hbl,hcl⟩:=HP.out.ex (by rw [← HN.out];omega);obtain⟨p,hp⟩:∃ p,ps[k]? = some p:=⟨_,aaD (by rw [← HN.out];exact hlt)⟩;obtain⟨c0,c1,c2⟩:=hcl k p hp;have d0:=(HL.out.cell (p:=⟨b,k * 3,none⟩) hbl).trans c0;have d1:=(HL.out.cell (p:=⟨b,k * 3+1,none⟩) hbl).trans c1;have d2:=(HL.out.cell (p:=⟨b,k * 3+2,none⟩) hbl).trans c2;have hpr:=HR.out.2 p (aaM hp);have HCL:=hid hcl;have HPP:=hid hp;clear c0 c1 c2 hcl hp;simp only [KM] at d2
   obtain⟨lst,mst,pd⟩:=p;simp only at d0 d1 d2 hpr
   have i1:(0:Int)≤(k:Int):=by omega
   have i2:(k:Int) < (n:Int):=by omega
   have HD:=hid (show ps.drop k=⟨lst,mst,pd⟩ :: ps.drop (k+1) by
    rw [aaX (by rw [← HN.out];exact hlt),(aaE.1 HPP.out).2])
   have TH:=hid (show Mist.fits (⟨lst,mst,pd⟩ :: ps.drop (k+1)) ks'=Mist.fits ps ks by rw [← HD.out];exact HF.out);clear HF HD;obtain⟨q,hq⟩:∃ q,q=MQ pd:=⟨_,rfl⟩;rw [← hq] at d2
   have HQ:=hid hq;clear hq;have hkc2:k+1≤c:=by omega
   rcases Classical.em (c=k+1) with rfl | hck
   all_goals
    go_wp2_with fail;have dA:=hid (aC.new wo 152 #[.int .i64 lst,.int .i64 mst,.func (.func q) #[] #[]]);have kT:=hid (ah HL.out HL.out.size (o:=.cells #[.int .i64 lst,.int .i64 mst,.func (.func q) #[] #[]] 152));go_loopw [7,25] (fun v j xD=>∃ (jn:Nat) (rs:Int),jn≤n - (k+1)∧j=.int .i64 jn∧v=.int .i64 rs∧0≤rs∧rs≤801 * (jn:Int)∧Hid (rs=lM ((ps.drop (k+1)).take jn))∧Hid (Below w.heap.size w xD)∧Hid (aC xD wo.heap.size 152 #[.int .i64 lst,.int .i64 mst,.func (.func q) #[] #[]])∧Hid (Below wo.heap.size wo xD)) (fun _ j _=>n - (k+1) - (intOf j).toNat)
    case atStart=>exact⟨0,0,aaL _,rfl,rfl,Int.le_refl _,by omega,hid (by simp [lM]),kT,dA,hid (ah (Below.refl _ _) (aaJ _))⟩
    case round =>
     clear kT dA;obtain⟨jn,rs,hj,rfl,rfl,hr0,hr1,Jr,kT,dA,HW6⟩:=hrel;by_cases hjl:jn < n - (k+1)
     ·first
      | (exfalso;omega)
      | (obtain ⟨p2, hp2⟩ : ∃ p2, ps[k + 1 + jn]? = some p2 := ⟨_, aaD (by rw [← HN.out]; omega)⟩
         obtain⟨e0,e1,e2⟩:=HCL.out (k+1+jn) p2 hp2;have hpr2:=HR.out.2 p2 (aaM hp2);have g0:=(kT.out.cell (p:=⟨b,(k+1+jn) * 3,none⟩) hbl).trans e0;have g1:=(kT.out.cell (p:=⟨b,(k+1+jn) * 3+1,none⟩) hbl).trans e1;have g2:=(kT.out.cell (p:=⟨b,(k+1+jn) * 3+2,none⟩) hbl).trans e2;rw [show (k+1+jn) * 3=(k+1) * 3+jn * 3 by omega] at g0 g1 g2
         have HP2:=hid hp2;clear e0 e1 e2 hp2;simp only [KM] at g2
         obtain⟨lst2,mst2,pd2⟩:=p2;simp only at g0 g1 g2 hpr2
         obtain⟨q2,hq2⟩:∃ q,q=MQ pd2:=⟨_,rfl⟩;rw [← hq2] at g2
         clear hq2;have j1:(0:Int)≤(jn:Int):=by omega
         have j2:(jn:Int) < ((n - (k+1):Nat):Int):=by omega
         have j3:decide (jn < n - (k+1))=true:=aaU hjl;go_wp2_with fail
         refine⟨⟨jn+1,rs+lst2,by omega,by go_num,rfl,by omega,by omega,hid ?_,hid (ah kT.out kT.out.size),hid (dA.out.alloc _),hid (ah HW6.out HW6.out.size)⟩,by simp [intOf];omega⟩
         rw [List.take_add_one,List.getElem?_drop,HP2.out,Jr.out];exact (Ph _ (⟨lst2,mst2,pd2⟩:Part)).symm)
     ·have HRS2:=hid (show rs=lM (ps.drop (k+1)) by rw [Jr.out,aaN (by rw [List.length_drop,← HN.out];omega)]);clear Jr;have hsz6:=dA.out.lt;have j3:decide (jn < n - (k+1))=false:=aaV hjl;have b0:=dA.out.cell 0;have b1:=dA.out.cell 1;have hjn:(jn:Int)≤3:=by omega
      have hrs3:rs≤2403:=by omega
      have hm0:(0:Int)≤(m:Int):=by omega
      have hm1:(m:Int)≤1000000:=by omega
      cases hw:Mist.within ((m:Int) - rs) lst mst
      ·have Ga:=hid hw;clear hw;go_wp2_with fail;refine (dU ((m:Int) - rs) lst mst false Ga.out _).mono ?_;rintro e w2⟨rfl,rfl⟩;go_wp2_with fail;go_ret;exact⟨bD (by rw [← TH.out,Md Ga.out HM.out HRS2.out]),kT.out⟩
      ·have Ga:=hid hw;have hw2:lst≤(m:Int) - rs∧(m:Int) - rs≤mst:=by simpa [Mist.within] using hw
       obtain⟨nn,hnn⟩:∃ nn:Nat,(m:Int) - rs=(nn:Int):=⟨((m:Int) - rs).toNat,by omega⟩;have pF:=hid hnn;have hnm:nn≤m:=by omega
       clear hw;have n1:(0:Int)≤(nn:Int):=by omega
       have n2:(nn:Int)≤(m:Int):=by omega
       cases hr2:(ks'.take nn).all pd.is
       ·have HR2:=hid hr2;clear hr2;go_wp2_with fail;refine (dU _ lst mst true (by rw [← pF.out];exact Ga.out) _).mono ?_;rintro e w2⟨rfl,rfl⟩;go_wp2_with fail;refine (wU pd (ks'.take nn) nn (by rw [List.length_take,HM.out];omega) K' kc' _ ((HK.out.below HW6.out).take nn) (by rw [List.length_take,HM.out];omega) _ _ wo.heap.size 152 (by rw [KM,← HQ.out];exact dA.out) false HR2.out).mono ?_;rintro e w3⟨rfl,rfl⟩;go_wp2_with fail;go_ret;exact⟨bD (by rw [← TH.out,zC Ga.out HM.out HRS2.out pF.out,HR2.out,Bool.false_and]),kT.out⟩
       ·have HR2:=hid hr2;clear hr2;by_cases hkn:kc'=nn
        all_goals
         go_wp2_with fail;refine (dU _ lst mst true (by rw [← pF.out];exact Ga.out) _).mono ?_;rintro e w2⟨rfl,rfl⟩;go_wp2_with fail;refine (wU pd (ks'.take nn) nn (by rw [List.length_take,HM.out];omega) K' _ _ ((HK.out.below HW6.out).take nn) (by rw [List.length_take,HM.out];omega) _ _ wo.heap.size 152 (by rw [KM,← HQ.out];exact dA.out) true HR2.out).mono ?_;rintro e w3⟨rfl,rfl⟩;go_wp2_with fail;have AQ:=hid ((HK.out.below HW6.out).drop (n:=nn) (c:=kc') (by rw [HM.out];exact hmc))
         refine⟨⟨k+1,m - nn,_,ks'.drop nn,_,by omega,by go_num,rfl,by omega,by omega,hid (by rw [List.length_drop,HM.out]),hid (by have h9:=AQ.out;first | rwa [if_pos hkn] at h9 | rwa [if_neg hkn] at h9),hid (by have h9:=TH.out;rw [zC Ga.out HM.out HRS2.out pF.out,HR2.out,Bool.true_and] at h9;exact h9),kT,hid (HT.out.below HW6.out hsz)⟩,by simp [intOf];omega⟩
  ·have HE:=hid (show Mist.fits ps ks=decide (m=0) by
    rw [← HF.out,List.drop_of_length_le (by rw [← HN.out];omega),← HM.out,Mist.fits]
    cases ks' <;> simp)
   go_wp2_with fail;go_ret
   refine⟨bD ?_,HL.out⟩
   rw [HE.out,aaI];simp
end Go.Proofs.YthepmkjggfijoaaGreatDoor
namespace Go.Proofs.YthepmkjggfijoaaGreatDoor
open Go.RowKit Mist
attribute [local go_sem] aj aH aS aB ak
theorem shape_k1 (x:Bs)(n a:Int)(Ak:Option Addr)(nk ck:Nat)(w:World):Calls Tryz.prog 103 #[.agg #[.int .u8 1,.string (aM x),.int .i64 n,.slice Ak nk ck,.int .i64 a]] w (eB (Mist.shapeOf 1 n) w):=by
 go_in
 go_wp2_with fail;refine (aG _ _).mono ?_;rintro e w1⟨rfl,hb1⟩;go_wp2_with fail;refine (aG _ _).mono ?_;rintro e w2⟨rfl,hb2⟩;go_wp2_with fail;refine (aG _ _).mono ?_;rintro e w3⟨rfl,hb3⟩;have HF:=hid (fP hb1 hb2 hb3);have hz:=HF.out.1;clear hb1 hb2 hb3;go_upto_region 5 with (fail)
 obtain⟨w5,hw,cu,iU,jO,vS,hs7,Dv,-⟩:=HF.out.2;rw [hw];clear hw hz HF;have p0:=iU.out.cell 0;have p2:=iU.out.cell 2;have q0:=cu.out.cell 0;have q1:=cu.out.cell 1;have q2:=cu.out.cell 2;have q3:=cu.out.cell 3;have r0:=cu.out.frozen 0;have r1:=cu.out.frozen 1;have r2:=cu.out.frozen 2;have r3:=cu.out.frozen 3;go_wp2_with fail;refine bodyPost_ret (v:=.tuple #[.agg #[.bool false,.int .i64 0,.int .i64 9999,.slice none 0 0],.bool true]) (by simp [results,Tryz.f103,go_sem,q0,q1,q2,q3]) rfl ?_
 refine⟨_,_,_,_,_,_,_,rfl,?_,rfl,rfl,rfl,rfl,rfl,aaJ _,?_⟩
 ·repeat (first|(with_reducible exact jO.out)|(with_reducible refine dx ?_ ?_)|(with_reducible refine ah ?_ ?_) | omega|(simp;omega))
 ·exact dS.nil _
theorem shape_k2 (x:Bs)(n a:Int)(Ak:Option Addr)(nk ck:Nat)(w:World):Calls Tryz.prog 103 #[.agg #[.int .u8 2,.string (aM x),.int .i64 n,.slice Ak nk ck,.int .i64 a]] w (eB (Mist.shapeOf 2 n) w):=by
 go_in
 go_wp2_with fail;refine (aG _ _).mono ?_;rintro e w1⟨rfl,hb1⟩;go_wp2_with fail;refine (aG _ _).mono ?_;rintro e w2⟨rfl,hb2⟩;go_wp2_with fail;refine (aG _ _).mono ?_;rintro e w3⟨rfl,hb3⟩;have HF:=hid (fP hb1 hb2 hb3);have hz:=HF.out.1;clear hb1 hb2 hb3;go_upto_region 5 with (fail)
 obtain⟨w5,hw,cu,iU,jO,vS,hs7,Dv,-⟩:=HF.out.2;rw [hw];clear hw hz HF;have p0:=iU.out.cell 0;have p2:=iU.out.cell 2;have q0:=cu.out.cell 0;have q1:=cu.out.cell 1;have q2:=cu.out.cell 2;have q3:=cu.out.cell 3;have r0:=cu.out.frozen 0;have r1:=cu.out.frozen 1;have r2:=cu.out.frozen 2;have r3:=cu.out.frozen 3;go_wp2_with fail;refine bodyPost_ret (v:=.tuple #[.agg #[.bool false,.int .i64 0,.int .i64 1,.slice none 0 0],.bool true]) (by simp [results,Tryz.f103,go_sem,q0,q1,q2,q3]) rfl ?_
 refine⟨_,_,_,_,_,_,_,rfl,?_,rfl,rfl,rfl,rfl,rfl,aaJ _,?_⟩
 ·repeat (first|(with_reducible exact jO.out)|(with_reducible refine dx ?_ ?_)|(with_reducible refine ah ?_ ?_) | omega|(simp;omega))
 ·exact dS.nil _
theorem WM (x:Bs)(n a:Int)(Ak:Option Addr)(nk ck:Nat)(w:World):Calls Tryz.prog 103 #[.agg #[.int .u8 30,.string (aM x),.int .i64 n,.slice Ak nk ck,.int .i64 a]] w (eB (Mist.shapeOf 30 n) w):=by
 go_in
 go_wp2_with fail;refine (aG _ _).mono ?_;rintro e w1⟨rfl,hb1⟩;go_wp2_with fail;refine (aG _ _).mono ?_;rintro e w2⟨rfl,hb2⟩;go_wp2_with fail;refine (aG _ _).mono ?_;rintro e w3⟨rfl,hb3⟩;have HF:=hid (fP hb1 hb2 hb3);have hz:=HF.out.1;clear hb1 hb2 hb3;go_upto_region 5 with (fail)
 obtain⟨w5,hw,cu,iU,jO,vS,hs7,Dv,-⟩:=HF.out.2;rw [hw];clear hw hz HF;have p0:=iU.out.cell 0;have p2:=iU.out.cell 2;have q0:=cu.out.cell 0;have q1:=cu.out.cell 1;have q2:=cu.out.cell 2;have q3:=cu.out.cell 3;have r0:=cu.out.frozen 0;have r1:=cu.out.frozen 1;have r2:=cu.out.frozen 2;have r3:=cu.out.frozen 3;go_wp2_with fail;refine bodyPost_ret (v:=.tuple #[.agg #[.bool false,.int .i64 0,.int .i64 0,.slice none 0 0],.bool true]) (by simp [results,Tryz.f103,go_sem,q0,q1,q2,q3]) rfl ?_
 refine⟨_,_,_,_,_,_,_,rfl,?_,rfl,rfl,rfl,rfl,rfl,aaJ _,?_⟩
 ·repeat (first|(with_reducible exact jO.out)|(with_reducible refine dx ?_ ?_)|(with_reducible refine ah ?_ ?_) | omega|(simp;omega))
 ·exact dS.nil _
theorem WO (x:Bs)(n a:Int)(Ak:Option Addr)(nk ck:Nat)(w:World):Calls Tryz.prog 103 #[.agg #[.int .u8 31,.string (aM x),.int .i64 n,.slice Ak nk ck,.int .i64 a]] w (eB (Mist.shapeOf 31 n) w):=by
 go_in
 go_wp2_with fail;refine (aG _ _).mono ?_;rintro e w1⟨rfl,hb1⟩;go_wp2_with fail;refine (aG _ _).mono ?_;rintro e w2⟨rfl,hb2⟩;go_wp2_with fail;refine (aG _ _).mono ?_;rintro e w3⟨rfl,hb3⟩;have HF:=hid (fP hb1 hb2 hb3);have hz:=HF.out.1;clear hb1 hb2 hb3;go_upto_region 5 with (fail)
 obtain⟨w5,hw,cu,iU,jO,vS,hs7,Dv,-⟩:=HF.out.2;rw [hw];clear hw hz HF;have p0:=iU.out.cell 0;have p2:=iU.out.cell 2;have q0:=cu.out.cell 0;have q1:=cu.out.cell 1;have q2:=cu.out.cell 2;have q3:=cu.out.cell 3;have r0:=cu.out.frozen 0;have r1:=cu.out.frozen 1;have r2:=cu.out.frozen 2;have r3:=cu.out.frozen 3;go_wp2_with fail;refine bodyPost_ret (v:=.tuple #[.agg #[.bool false,.int .i64 0,.int .i64 0,.slice none 0 0],.bool true]) (by simp [results,Tryz.f103,go_sem,q0,q1,q2,q3]) rfl ?_
 refine⟨_,_,_,_,_,_,_,rfl,?_,rfl,rfl,rfl,rfl,rfl,aaJ _,?_⟩
 ·repeat (first|(with_reducible exact jO.out)|(with_reducible refine dx ?_ ?_)|(with_reducible refine ah ?_ ?_) | omega|(simp;omega))
 ·exact dS.nil _
theorem shape_k3 (x:Bs)(n a:Int)(Ak:Option Addr)(nk ck:Nat)(w:World):Calls Tryz.prog 103 #[.agg #[.int .u8 3,.string (aM x),.int .i64 n,.slice Ak nk ck,.int .i64 a]] w (eB (Mist.shapeOf 3 n) w):=by
 go_in
 go_wp2_with fail;refine (aG _ _).mono ?_;rintro e w1⟨rfl,hb1⟩;go_wp2_with fail;refine (aG _ _).mono ?_;rintro e w2⟨rfl,hb2⟩;go_wp2_with fail;refine (aG _ _).mono ?_;rintro e w3⟨rfl,hb3⟩;have HF:=hid (fP hb1 hb2 hb3);have hz:=HF.out.1;clear hb1 hb2 hb3;go_upto_region 5 with (fail)
 obtain⟨w5,hw,cu,iU,jO,vS,hs7,Dv,-⟩:=HF.out.2;rw [hw];clear hw hz HF;have p0:=iU.out.cell 0;have p2:=iU.out.cell 2;have q0:=cu.out.cell 0;have q1:=cu.out.cell 1;have q2:=cu.out.cell 2;have q3:=cu.out.cell 3;have r0:=cu.out.frozen 0;have r1:=cu.out.frozen 1;have r2:=cu.out.frozen 2;have r3:=cu.out.frozen 3;go_wp2_with fail;refine (mZ _ _ _ _).mono ?_;rintro e w6⟨rfl,hb6⟩;have dA:=hid (show aC w6 (w.heap.size+1) 119 #[.bool false,.int .i64 0,.int .i64 0,.slice none 0 0] from aC.below (by repeat (first|(with_reducible exact cu.out)|(with_reducible refine aC.alloc ?_ _))) hb6 (by first | omega|(simp;omega)));have kT:=hid (show Below w.heap.size w w6 from Below.trans (by repeat (first|(with_reducible exact jO.out)|(with_reducible refine dx ?_ ?_)|(with_reducible refine ah ?_ ?_) | omega|(simp;omega))) (hb6.mono (by first | omega|(simp;omega))));clear hb6;clear q0 q1 q2 q3 r0 r1 r2 r3;have q0:=dA.out.cell 0;have q1:=dA.out.cell 1;have q2:=dA.out.cell 2;have q3:=dA.out.cell 3;have r0:=dA.out.frozen 0;have r1:=dA.out.frozen 1;have r2:=dA.out.frozen 2;have r3:=dA.out.frozen 3;go_wp2_with fail;refine bodyPost_ret (v:=.tuple #[.agg #[.bool true,.int .i64 0,.int .i64 0,.slice none 0 0],.bool true]) (by simp [results,Tryz.f103,go_sem,q0,q1,q2,q3]) rfl ?_
 refine⟨_,_,_,_,_,_,_,rfl,?_,rfl,rfl,rfl,rfl,rfl,aaJ _,?_⟩
 ·repeat (first|(with_reducible exact kT.out)|(with_reducible refine dx ?_ ?_)|(with_reducible refine ah ?_ ?_) | omega|(simp;omega))
 ·exact dS.nil _
theorem WQ (x:Bs)(n a:Int)(Ak:Option Addr)(nk ck:Nat)(w:World):Calls Tryz.prog 103 #[.agg #[.int .u8 32,.string (aM x),.int .i64 n,.slice Ak nk ck,.int .i64 a]] w (eB (Mist.shapeOf 32 n) w):=by
 go_in
 go_wp2_with fail;refine (aG _ _).mono ?_;rintro e w1⟨rfl,hb1⟩;go_wp2_with fail;refine (aG _ _).mono ?_;rintro e w2⟨rfl,hb2⟩;go_wp2_with fail;refine (aG _ _).mono ?_;rintro e w3⟨rfl,hb3⟩;have HF:=hid (fP hb1 hb2 hb3);have hz:=HF.out.1;clear hb1 hb2 hb3;go_upto_region 5 with (fail)
 obtain⟨w5,hw,cu,iU,jO,vS,hs7,Dv,-⟩:=HF.out.2;rw [hw];clear hw hz HF;have p0:=iU.out.cell 0;have p2:=iU.out.cell 2;have q0:=cu.out.cell 0;have q1:=cu.out.cell 1;have q2:=cu.out.cell 2;have q3:=cu.out.cell 3;have r0:=cu.out.frozen 0;have r1:=cu.out.frozen 1;have r2:=cu.out.frozen 2;have r3:=cu.out.frozen 3;go_wp2_with fail;refine (mZ _ _ _ _).mono ?_;rintro e w6⟨rfl,hb6⟩;have dA:=hid (show aC w6 (w.heap.size+1) 119 #[.bool false,.int .i64 0,.int .i64 0,.slice none 0 0] from aC.below (by repeat (first|(with_reducible exact cu.out)|(with_reducible refine aC.alloc ?_ _))) hb6 (by first | omega|(simp;omega)));have kT:=hid (show Below w.heap.size w w6 from Below.trans (by repeat (first|(with_reducible exact jO.out)|(with_reducible refine dx ?_ ?_)|(with_reducible refine ah ?_ ?_) | omega|(simp;omega))) (hb6.mono (by first | omega|(simp;omega))));clear hb6;clear q0 q1 q2 q3 r0 r1 r2 r3;have q0:=dA.out.cell 0;have q1:=dA.out.cell 1;have q2:=dA.out.cell 2;have q3:=dA.out.cell 3;have r0:=dA.out.frozen 0;have r1:=dA.out.frozen 1;have r2:=dA.out.frozen 2;have r3:=dA.out.frozen 3;go_wp2_with fail;refine bodyPost_ret (v:=.tuple #[.agg #[.bool true,.int .i64 0,.int .i64 0,.slice none 0 0],.bool true]) (by simp [results,Tryz.f103,go_sem,q0,q1,q2,q3]) rfl ?_
 refine⟨_,_,_,_,_,_,_,rfl,?_,rfl,rfl,rfl,rfl,rfl,aaJ _,?_⟩
 ·repeat (first|(with_reducible exact kT.out)|(with_reducible refine dx ?_ ?_)|(with_reducible refine ah ?_ ?_) | omega|(simp;omega))
 ·exact dS.nil _
theorem WY (x:Bs)(n a:Int)(Ak:Option Addr)(nk ck:Nat)(w:World):Calls Tryz.prog 103 #[.agg #[.int .u8 45,.string (aM x),.int .i64 n,.slice Ak nk ck,.int .i64 a]] w (eB (Mist.shapeOf 45 n) w):=by
 go_in
 go_wp2_with fail;refine (aG _ _).mono ?_;rintro e w1⟨rfl,hb1⟩;go_wp2_with fail;refine (aG _ _).mono ?_;rintro e w2⟨rfl,hb2⟩;go_wp2_with fail;refine (aG _ _).mono ?_;rintro e w3⟨rfl,hb3⟩;have HF:=hid (fP hb1 hb2 hb3);have hz:=HF.out.1;clear hb1 hb2 hb3;go_upto_region 5 with (fail)
 obtain⟨w5,hw,cu,iU,jO,vS,hs7,Dv,-⟩:=HF.out.2;rw [hw];clear hw hz HF;have p0:=iU.out.cell 0;have p2:=iU.out.cell 2;have q0:=cu.out.cell 0;have q1:=cu.out.cell 1;have q2:=cu.out.cell 2;have q3:=cu.out.cell 3;have r0:=cu.out.frozen 0;have r1:=cu.out.frozen 1;have r2:=cu.out.frozen 2;have r3:=cu.out.frozen 3;go_wp2_with fail;refine (mZ _ _ _ _).mono ?_;rintro e w6⟨rfl,hb6⟩;have dA:=hid (show aC w6 (w.heap.size+1) 119 #[.bool false,.int .i64 0,.int .i64 0,.slice none 0 0] from aC.below (by repeat (first|(with_reducible exact cu.out)|(with_reducible refine aC.alloc ?_ _))) hb6 (by first | omega|(simp;omega)));have kT:=hid (show Below w.heap.size w w6 from Below.trans (by repeat (first|(with_reducible exact jO.out)|(with_reducible refine dx ?_ ?_)|(with_reducible refine ah ?_ ?_) | omega|(simp;omega))) (hb6.mono (by first | omega|(simp;omega))));clear hb6;clear q0 q1 q2 q3 r0 r1 r2 r3;have q0:=dA.out.cell 0;have q1:=dA.out.cell 1;have q2:=dA.out.cell 2;have q3:=dA.out.cell 3;have r0:=dA.out.frozen 0;have r1:=dA.out.frozen 1;have r2:=dA.out.frozen 2;have r3:=dA.out.frozen 3;go_wp2_with fail;refine bodyPost_ret (v:=.tuple #[.agg #[.bool true,.int .i64 0,.int .i64 0,.slice none 0 0],.bool true]) (by simp [results,Tryz.f103,go_sem,q0,q1,q2,q3]) rfl ?_
 refine⟨_,_,_,_,_,_,_,rfl,?_,rfl,rfl,rfl,rfl,rfl,aaJ _,?_⟩
 ·repeat (first|(with_reducible exact kT.out)|(with_reducible refine dx ?_ ?_)|(with_reducible refine ah ?_ ?_) | omega|(simp;omega))
 ·exact dS.nil _
theorem shape_k4 (x:Bs)(n a:Int)(Ak:Option Addr)(nk ck:Nat)(w:World):Calls Tryz.prog 103 #[.agg #[.int .u8 4,.string (aM x),.int .i64 n,.slice Ak nk ck,.int .i64 a]] w (eB (Mist.shapeOf 4 n) w):=by
 go_in
 go_wp2_with fail;refine (aG _ _).mono ?_;rintro e w1⟨rfl,hb1⟩;go_wp2_with fail;refine (aG _ _).mono ?_;rintro e w2⟨rfl,hb2⟩;go_wp2_with fail;refine (aG _ _).mono ?_;rintro e w3⟨rfl,hb3⟩;have HF:=hid (fP hb1 hb2 hb3);have hz:=HF.out.1;clear hb1 hb2 hb3;go_upto_region 5 with (fail)
 obtain⟨w5,hw,cu,iU,jO,vS,hs7,Dv,lG,-,-,-,-⟩:=HF.out.2;rw [hw];clear hw hz HF;have o0:=lG.out.cell 0;have o1:=lG.out.cell 1;have o2:=lG.out.cell 2;have Uk:=lG.out.lt;have p0:=iU.out.cell 0;have p2:=iU.out.cell 2;have q0:=cu.out.cell 0;have q1:=cu.out.cell 1;have q2:=cu.out.cell 2;have q3:=cu.out.cell 3;have r0:=cu.out.frozen 0;have r1:=cu.out.frozen 1;have r2:=cu.out.frozen 2;have r3:=cu.out.frozen 3;go_wp2_with fail;refine (uo _ _ _ _).mono ?_;rintro e w6⟨rfl,hb6⟩;have HQ:=hid (gF hb6);have dA:=hid (show aC w6 (w.heap.size+1) 119 #[.bool false,.int .i64 0,.int .i64 0,.slice none 0 0] from aC.below (by repeat (first|(with_reducible exact cu.out)|(with_reducible refine aC.alloc ?_ _))) hb6 (by first | omega|(simp;omega)));have kT:=hid (show Below w.heap.size w w6 from Below.trans (by repeat (first|(with_reducible exact jO.out)|(with_reducible refine dx ?_ ?_)|(with_reducible refine ah ?_ ?_) | omega|(simp;omega))) (hb6.mono (by first | omega|(simp;omega))));clear hb6;clear q0 q1 q2 q3 r0 r1 r2 r3;have q0:=dA.out.cell 0;have q1:=dA.out.cell 1;have q2:=dA.out.cell 2;have q3:=dA.out.cell 3;have r0:=dA.out.frozen 0;have r1:=dA.out.frozen 1;have r2:=dA.out.frozen 2;have r3:=dA.out.frozen 3;go_wp2_with fail;refine bodyPost_ret (v:=.tuple #[.agg #[.bool false,.int .i64 0,.int .i64 0,.slice (some ⟨w5.heap.size,0,none⟩) 1 1],.bool true]) (by simp [results,Tryz.f103,go_sem,q0,q1,q2,q3]) rfl ?_
 refine⟨_,_,_,_,_,_,_,rfl,?_,rfl,rfl,rfl,rfl,rfl,aaJ _,?_⟩
 ·repeat (first|(with_reducible exact kT.out)|(with_reducible refine dx ?_ ?_)|(with_reducible refine ah ?_ ?_) | omega|(simp;omega))
 ·refine dS.one (T:=152) ?_
  repeat (first|(with_reducible refine aC.far ?_ ?_ _) | exact HQ.out|(simp;omega))
theorem shape_k5 (x:Bs)(n a:Int)(Ak:Option Addr)(nk ck:Nat)(w:World):Calls Tryz.prog 103 #[.agg #[.int .u8 5,.string (aM x),.int .i64 n,.slice Ak nk ck,.int .i64 a]] w (eB (Mist.shapeOf 5 n) w):=by
 go_in
 go_wp2_with fail;refine (aG _ _).mono ?_;rintro e w1⟨rfl,hb1⟩;go_wp2_with fail;refine (aG _ _).mono ?_;rintro e w2⟨rfl,hb2⟩;go_wp2_with fail;refine (aG _ _).mono ?_;rintro e w3⟨rfl,hb3⟩;have HF:=hid (fP hb1 hb2 hb3);have hz:=HF.out.1;clear hb1 hb2 hb3;go_upto_region 5 with (fail)
 obtain⟨w5,hw,cu,iU,jO,vS,hs7,Dv,lG,-,-,-,-⟩:=HF.out.2;rw [hw];clear hw hz HF;have o0:=lG.out.cell 0;have o1:=lG.out.cell 1;have o2:=lG.out.cell 2;have Uk:=lG.out.lt;have p0:=iU.out.cell 0;have p2:=iU.out.cell 2;have q0:=cu.out.cell 0;have q1:=cu.out.cell 1;have q2:=cu.out.cell 2;have q3:=cu.out.cell 3;have r0:=cu.out.frozen 0;have r1:=cu.out.frozen 1;have r2:=cu.out.frozen 2;have r3:=cu.out.frozen 3;go_wp2_with fail;refine (uo _ _ _ _).mono ?_;rintro e w6⟨rfl,hb6⟩;have HQ:=hid (gF hb6);have dA:=hid (show aC w6 (w.heap.size+1) 119 #[.bool false,.int .i64 0,.int .i64 0,.slice none 0 0] from aC.below (by repeat (first|(with_reducible exact cu.out)|(with_reducible refine aC.alloc ?_ _))) hb6 (by first | omega|(simp;omega)));have kT:=hid (show Below w.heap.size w w6 from Below.trans (by repeat (first|(with_reducible exact jO.out)|(with_reducible refine dx ?_ ?_)|(with_reducible refine ah ?_ ?_) | omega|(simp;omega))) (hb6.mono (by first | omega|(simp;omega))));clear hb6;clear q0 q1 q2 q3 r0 r1 r2 r3;have q0:=dA.out.cell 0;have q1:=dA.out.cell 1;have q2:=dA.out.cell 2;have q3:=dA.out.cell 3;have r0:=dA.out.frozen 0;have r1:=dA.out.frozen 1;have r2:=dA.out.frozen 2;have r3:=dA.out.frozen 3;go_wp2_with fail;refine bodyPost_ret (v:=.tuple #[.agg #[.bool false,.int .i64 0,.int .i64 0,.slice (some ⟨w5.heap.size,0,none⟩) 1 1],.bool true]) (by simp [results,Tryz.f103,go_sem,q0,q1,q2,q3]) rfl ?_
 refine⟨_,_,_,_,_,_,_,rfl,?_,rfl,rfl,rfl,rfl,rfl,aaJ _,?_⟩
 ·repeat (first|(with_reducible exact kT.out)|(with_reducible refine dx ?_ ?_)|(with_reducible refine ah ?_ ?_) | omega|(simp;omega))
 ·refine dS.one (T:=152) ?_
  repeat (first|(with_reducible refine aC.far ?_ ?_ _) | exact HQ.out|(simp;omega))
theorem WC (x:Bs)(n a:Int)(Ak:Option Addr)(nk ck:Nat)(w:World):Calls Tryz.prog 103 #[.agg #[.int .u8 19,.string (aM x),.int .i64 n,.slice Ak nk ck,.int .i64 a]] w (eB (Mist.shapeOf 19 n) w):=by
 go_in
 go_wp2_with fail;refine (aG _ _).mono ?_;rintro e w1⟨rfl,hb1⟩;go_wp2_with fail;refine (aG _ _).mono ?_;rintro e w2⟨rfl,hb2⟩;go_wp2_with fail;refine (aG _ _).mono ?_;rintro e w3⟨rfl,hb3⟩;have HF:=hid (fP hb1 hb2 hb3);have hz:=HF.out.1;clear hb1 hb2 hb3;go_upto_region 5 with (fail)
 obtain⟨w5,hw,cu,iU,jO,vS,hs7,Dv,-,-,lG,-,-⟩:=HF.out.2;rw [hw];clear hw hz HF;have o0:=lG.out.cell 0;have o1:=lG.out.cell 1;have o2:=lG.out.cell 2;have Uk:=lG.out.lt;have p0:=iU.out.cell 0;have p2:=iU.out.cell 2;have q0:=cu.out.cell 0;have q1:=cu.out.cell 1;have q2:=cu.out.cell 2;have q3:=cu.out.cell 3;have r0:=cu.out.frozen 0;have r1:=cu.out.frozen 1;have r2:=cu.out.frozen 2;have r3:=cu.out.frozen 3;go_wp2_with fail;refine (uo _ _ _ _).mono ?_;rintro e w6⟨rfl,hb6⟩;have HQ:=hid (gF hb6);have dA:=hid (show aC w6 (w.heap.size+1) 119 #[.bool false,.int .i64 0,.int .i64 0,.slice none 0 0] from aC.below (by repeat (first|(with_reducible exact cu.out)|(with_reducible refine aC.alloc ?_ _))) hb6 (by first | omega|(simp;omega)));have kT:=hid (show Below w.heap.size w w6 from Below.trans (by repeat (first|(with_reducible exact jO.out)|(with_reducible refine dx ?_ ?_)|(with_reducible refine ah ?_ ?_) | omega|(simp;omega))) (hb6.mono (by first | omega|(simp;omega))));clear hb6;clear q0 q1 q2 q3 r0 r1 r2 r3;have q0:=dA.out.cell 0;have q1:=dA.out.cell 1;have q2:=dA.out.cell 2;have q3:=dA.out.cell 3;have r0:=dA.out.frozen 0;have r1:=dA.out.frozen 1;have r2:=dA.out.frozen 2;have r3:=dA.out.frozen 3;go_wp2_with fail;refine bodyPost_ret (v:=.tuple #[.agg #[.bool false,.int .i64 0,.int .i64 0,.slice (some ⟨w5.heap.size,0,none⟩) 1 1],.bool true]) (by simp [results,Tryz.f103,go_sem,q0,q1,q2,q3]) rfl ?_
 refine⟨_,_,_,_,_,_,_,rfl,?_,rfl,rfl,rfl,rfl,rfl,aaJ _,?_⟩
 ·repeat (first|(with_reducible exact kT.out)|(with_reducible refine dx ?_ ?_)|(with_reducible refine ah ?_ ?_) | omega|(simp;omega))
 ·refine dS.one (T:=152) ?_
  repeat (first|(with_reducible refine aC.far ?_ ?_ _) | exact HQ.out|(simp;omega))
theorem WL (x:Bs)(n a:Int)(Ak:Option Addr)(nk ck:Nat)(w:World):Calls Tryz.prog 103 #[.agg #[.int .u8 26,.string (aM x),.int .i64 n,.slice Ak nk ck,.int .i64 a]] w (eB (Mist.shapeOf 26 n) w):=by
 go_in
 go_wp2_with fail;refine (aG _ _).mono ?_;rintro e w1⟨rfl,hb1⟩;go_wp2_with fail;refine (aG _ _).mono ?_;rintro e w2⟨rfl,hb2⟩;go_wp2_with fail;refine (aG _ _).mono ?_;rintro e w3⟨rfl,hb3⟩;have HF:=hid (fP hb1 hb2 hb3);have hz:=HF.out.1;clear hb1 hb2 hb3;go_upto_region 5 with (fail)
 obtain⟨w5,hw,cu,iU,jO,vS,hs7,Dv,-,-,-,-,lG⟩:=HF.out.2;rw [hw];clear hw hz HF;have o0:=lG.out.cell 0;have o1:=lG.out.cell 1;have o2:=lG.out.cell 2;have Uk:=lG.out.lt;have p0:=iU.out.cell 0;have p2:=iU.out.cell 2;have q0:=cu.out.cell 0;have q1:=cu.out.cell 1;have q2:=cu.out.cell 2;have q3:=cu.out.cell 3;have r0:=cu.out.frozen 0;have r1:=cu.out.frozen 1;have r2:=cu.out.frozen 2;have r3:=cu.out.frozen 3;go_wp2_with fail;refine (uo _ _ _ _).mono ?_;rintro e w6⟨rfl,hb6⟩;have HQ:=hid (gF hb6);have dA:=hid (show aC w6 (w.heap.size+1) 119 #[.bool false,.int .i64 0,.int .i64 0,.slice none 0 0] from aC.below (by repeat (first|(with_reducible exact cu.out)|(with_reducible refine aC.alloc ?_ _))) hb6 (by first | omega|(simp;omega)));have kT:=hid (show Below w.heap.size w w6 from Below.trans (by repeat (first|(with_reducible exact jO.out)|(with_reducible refine dx ?_ ?_)|(with_reducible refine ah ?_ ?_) | omega|(simp;omega))) (hb6.mono (by first | omega|(simp;omega))));clear hb6;clear q0 q1 q2 q3 r0 r1 r2 r3;have q0:=dA.out.cell 0;have q1:=dA.out.cell 1;have q2:=dA.out.cell 2;have q3:=dA.out.cell 3;have r0:=dA.out.frozen 0;have r1:=dA.out.frozen 1;have r2:=dA.out.frozen 2;have r3:=dA.out.frozen 3;go_wp2_with fail;refine bodyPost_ret (v:=.tuple #[.agg #[.bool false,.int .i64 0,.int .i64 0,.slice (some ⟨w5.heap.size,0,none⟩) 1 1],.bool true]) (by simp [results,Tryz.f103,go_sem,q0,q1,q2,q3]) rfl ?_
 refine⟨_,_,_,_,_,_,_,rfl,?_,rfl,rfl,rfl,rfl,rfl,aaJ _,?_⟩
 ·repeat (first|(with_reducible exact kT.out)|(with_reducible refine dx ?_ ?_)|(with_reducible refine ah ?_ ?_) | omega|(simp;omega))
 ·refine dS.one (T:=152) ?_
  repeat (first|(with_reducible refine aC.far ?_ ?_ _) | exact HQ.out|(simp;omega))
theorem WE (x:Bs)(n a:Int)(Ak:Option Addr)(nk ck:Nat)(w:World):Calls Tryz.prog 103 #[.agg #[.int .u8 20,.string (aM x),.int .i64 n,.slice Ak nk ck,.int .i64 a]] w (eB (Mist.shapeOf 20 n) w):=by
 go_in
 go_wp2_with fail;refine (aG _ _).mono ?_;rintro e w1⟨rfl,hb1⟩;go_wp2_with fail;refine (aG _ _).mono ?_;rintro e w2⟨rfl,hb2⟩;go_wp2_with fail;refine (aG _ _).mono ?_;rintro e w3⟨rfl,hb3⟩;have HF:=hid (fP hb1 hb2 hb3);have hz:=HF.out.1;clear hb1 hb2 hb3;go_upto_region 5 with (fail)
 obtain⟨w5,hw,cu,iU,jO,vS,hs7,Dv,-,lG,-,-,-⟩:=HF.out.2;rw [hw];clear hw hz HF;have o0:=lG.out.cell 0;have o1:=lG.out.cell 1;have o2:=lG.out.cell 2;have Uk:=lG.out.lt;have p0:=iU.out.cell 0;have p2:=iU.out.cell 2;have q0:=cu.out.cell 0;have q1:=cu.out.cell 1;have q2:=cu.out.cell 2;have q3:=cu.out.cell 3;have r0:=cu.out.frozen 0;have r1:=cu.out.frozen 1;have r2:=cu.out.frozen 2;have r3:=cu.out.frozen 3;go_wp2_with fail;refine (mZ _ _ _ _).mono ?_;rintro e w6⟨rfl,hb6⟩;have HQ:=hid (gF hb6);have dA:=hid (show aC w6 (w.heap.size+1) 119 #[.bool false,.int .i64 0,.int .i64 0,.slice none 0 0] from aC.below (by repeat (first|(with_reducible exact cu.out)|(with_reducible refine aC.alloc ?_ _))) hb6 (by first | omega|(simp;omega)));have kT:=hid (show Below w.heap.size w w6 from Below.trans (by repeat (first|(with_reducible exact jO.out)|(with_reducible refine dx ?_ ?_)|(with_reducible refine ah ?_ ?_) | omega|(simp;omega))) (hb6.mono (by first | omega|(simp;omega))));clear hb6;clear q0 q1 q2 q3 r0 r1 r2 r3;have q0:=dA.out.cell 0;have q1:=dA.out.cell 1;have q2:=dA.out.cell 2;have q3:=dA.out.cell 3;have r0:=dA.out.frozen 0;have r1:=dA.out.frozen 1;have r2:=dA.out.frozen 2;have r3:=dA.out.frozen 3;go_wp2_with fail;refine bodyPost_ret (v:=.tuple #[.agg #[.bool true,.int .i64 0,.int .i64 0,.slice (some ⟨w5.heap.size,0,none⟩) 1 1],.bool true]) (by simp [results,Tryz.f103,go_sem,q0,q1,q2,q3]) rfl ?_
 refine⟨_,_,_,_,_,_,_,rfl,?_,rfl,rfl,rfl,rfl,rfl,aaJ _,?_⟩
 ·repeat (first|(with_reducible exact kT.out)|(with_reducible refine dx ?_ ?_)|(with_reducible refine ah ?_ ?_) | omega|(simp;omega))
 ·refine dS.one (T:=152) ?_
  repeat (first|(with_reducible refine aC.far ?_ ?_ _) | exact HQ.out|(simp;omega))
end Go.Proofs.YthepmkjggfijoaaGreatDoor
