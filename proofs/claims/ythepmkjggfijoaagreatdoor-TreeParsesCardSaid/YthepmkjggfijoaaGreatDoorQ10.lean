/-
  A part of the proof.
-/
import Derived.Test.YthepmkjggfijoaaGreatDoorSA
import Derived.Test.YthepmkjggfijoaaGreatDoorQ08
import Derived.Test.YthepmkjggfijoaaGreatDoorQ09
set_option linter.all false
set_option maxRecDepth 100000
set_option maxHeartbeats 4000000
open Go.Lib (hid)
namespace Go.Proofs.YthepmkjggfijoaaGreatDoor
open Go.RowKit Mist
attribute [local go_sem] aj aH aS aB ak
def jy (T:Tr):Int × Int :=
 if Mist.large T=true∨30 < om T then (0,5)
 else match T.nodes.find? (fun x=>!gD T x) with
  | some x=>(x.at_,3)
  | none=>(0,0)
def Y5 (T:Tr)(w:World)(e:Ending)(w':World):Prop :=
 Below w.heap.size w w'∧((jy T).2 ≠ 0∧e=.returned (.tuple #[.agg #[.slice none 0 0,.slice none 0 0],.int .i64 (jy T).1,.int .i64 (jy T).2]) ∨
  (jy T).2=0∧∃ (A B:Option Addr) (c d:Nat) (xs:List NV),e=.returned (.tuple #[.agg #[.slice A xs.length c,.slice B T.items.length d],.int .i64 0,.int .i64 0])∧aA xs=T.nodes∧mq w' A B xs T.items)
theorem Vk {T:Tr}{xs:List NV}(hT:aA xs=T.nodes){x:Nd}(h:nJ T x):A8 xs x:=by
 intro rT;obtain⟨p,q,hk,hp,hq,h1,h2⟩:=h rT;obtain⟨y,hy⟩:∃ y,xs[p]? = some y:=jD (by rw [← aD,hT];exact hp);obtain⟨z,hz⟩:∃ z,xs[q]? = some z:=jD (by rw [← aD,hT];exact hq);have e1:nd T p=y.1:=by have h9:=l7 T.items hy;rw [hT] at h9;exact h9
 have e2:nd T q=z.1:=by have h9:=l7 T.items hz;rw [hT] at h9;exact h9
 exact⟨p,q,y,z,by rw [hk];rfl,by rw [hk];rfl,hy,hz,by rw [← e1];omega,by rw [← e2];omega⟩
structure BF (g:Nat) (w:World) (nv iv:Value) (xs:List NV) (its:List Int):Prop where
 own:w.ownsRow g 50 5 nv xs.length (iO xs)
 kids:∀ x ∈ xs,cB w x.2 x.1.kids
 row:cB w iv its
 new:∀ x ∈ xs,∀ b,x.2.ownBlock=some b→g≤b
 lo:∀ b,iv.ownBlock=some b→g≤b
theorem BF.below {g:Nat}{w w':World}{nv iv:Value}{xs:List NV}{its:List Int}(h:BF g w nv iv xs its)(hb:Below w.heap.size w w'):BF g w' nv iv xs its :=
 ⟨own_below h.own hb,fun x hx=>cB.below (h.kids x hx) hb,cB.below h.row hb,h.new,h.lo⟩
theorem BF.set {g:Nat}{w:World}{nv iv:Value}{xs:List NV}{its:List Int}(h:BF g w nv iv xs its){b i:Nat}{u:Value}(hb:b < g):BF g (w.setCell ⟨b,i,none⟩ u) nv iv xs its :=
 ⟨jZ h.own hb,fun x hx=>ownsRow_setCell_other (h.kids x hx) (fun e=>by have:=h.new x hx b (by first | exact e | exact e.symm);omega) _,ownsRow_setCell_other h.row (fun e=>by have:=h.lo b (by first | exact e | exact e.symm);omega) _,h.new,h.lo⟩
theorem BF.UH {g:Nat}{w:World}{A B:Option Addr}{c d n m:Nat}{xs:List NV}{its:List Int}(h:BF g w (.slice A n c) (.slice B m d) xs its)(hn:n=xs.length)(hm:m=its.length)(hk:∀ x ∈ xs,x.1.kids.length≤1000000):mq w A B xs its:=by
 subst hn;subst hm
 refine⟨fun h0=>?_,yI h.row rfl⟩
 obtain⟨gb,e,hn⟩:=Ee h.own h0 (fun x hx=>⟨_,h.kids x hx⟩) hk;exact⟨gb,0,e,hn⟩
theorem Ui {P:Nd→Bool}:∀ {xs:List NV} {k:Nat} {x:NV},xs[k]? = some x→(∀ (j:Nat) y,j < k→xs[j]? = some y→P y.1=false)→P x.1=true→(aA xs).find? P=some x.1
 | [],_,_,h,_,_=>by cases h
 | y :: ys,0,x,h,_,hP=>by
  obtain rfl:y=x:=by injection h
  show List.find? P (y.1 :: aA ys)=_
  rw [List.find?_cons_of_pos hP]
 | y :: ys,k+1,x,h,hj,hP=>by
  show List.find? P (y.1 :: aA ys)=_
  rw [List.find?_cons_of_neg (by rw [hj 0 y (Nat.succ_pos k) rfl];simp)];exact Ui (xs:=ys) (k:=k) h (fun j z hz e=>hj (j+1) z (Nat.succ_lt_succ hz) e) hP
theorem find_no {P:Nd→Bool}{xs:List NV}(h:∀ (j:Nat) y,j < xs.length→xs[j]? = some y→P y.1=false):(aA xs).find? P=none:=by
 rw [List.find?_eq_none];intro x hx;obtain⟨z,hz,rfl⟩:=List.mem_map.1 hx;obtain⟨j,hj,hjz⟩:=List.mem_iff_getElem.1 hz;rw [h j z hj (by rw [← hjz];exact aaD hj)];simp
theorem WA (s:Bs)(l:List Mist.Tok)(n m0:Nat)(its:List Int)(u:RS)(w:World)(hr:Mist.read s=(l,0,0))(hll:l.length≤1000)(hT:∀ t ∈ l,t.text.length≤100000000)(hp:nM l n m0 ⟨0,false,[]⟩ []=some (its,u))(hb:u.bad=false)(hl:s.length≤100000000)(hG:BD ⟨u.ns,its⟩) :
  Calls Tryz.prog 18 #[.string (aM s)] w (Y5 ⟨u.ns,its⟩ w):=by
 have hn:u.ns.length≤100000:=Nat.le_trans hG.len (by omega);have HR:=hid hr;clear hr;have HP:=hid hp;clear hp;have HG:=hid hG;clear hG;go_in
 go_wp2_with fail;refine (Ep s _ hl).mono ?_;rintro e w2⟨v,rfl,ht,hb2⟩;rw [HR.out] at ht ⊢
 have HB2:=hid (yT hb2);have HL2:=hid ((ah (Below.refl w.heap.size w) (aaJ _) (o:=.cells #[.slice none 0 0,.slice none 0 0] 26)).trans (hb2.mono (by simp)));obtain⟨At,ct,rfl⟩:∃ At ct,v=.slice At l.length ct:=by obtain⟨A,c,e,_⟩:=ht;exact⟨A,c,e⟩
 have uM:=hid ht;clear hb2 ht;simp only
 have HB3:=hid (HB2.out.alloc (.cells #[.slice At l.length ct,.int .i64 0,.slice none 0 0,.slice none 0 0,.bool false] 66));have lS:=hid (ah HL2.out HL2.out.size (o:=.cells #[.slice At l.length ct,.int .i64 0,.slice none 0 0,.slice none 0 0,.bool false] 66));have HQ:=hid (QS.start uM.out);have hw2:=HB2.out.lt;clear HB2;go_wp2_with fail;refine (aa4 l hll hT n w2.heap.size (.slice At l.length ct) _ _ _ _ its u m0 HP.out hn HQ.out).mono ?_;rintro e w4⟨rfl,B,d,xs,nv,hL,hQ,hM,Oz⟩;have tO:=hid (HB3.out.below (HQ.out.low hM.mv) hw2);have qx:=hid (lS.out.trans ((HQ.out.low hM.mv).mono (aaK hw2)));have rC:=hid hQ.ns;have hlen:xs.length≤1000:=by rw [hQ.len];exact HG.out.len
 have hkl:∀ x ∈ xs,x.1.kids.length≤1000000:=fun x hx=>HG.out.kids x.1 (by show x.1 ∈ u.ns;rw [← rC.out];exact List.mem_map_of_mem hx)
 have HCH:=hid (show ∀ (i:Nat) x,xs[i]? = some x→A8 xs x.1 from fun i x hx=>Vk (T:=⟨u.ns,its⟩) rC.out (HG.out.choose x.1 (by show x.1 ∈ u.ns;rw [← rC.out];exact List.mem_map_of_mem (aaM hx))));obtain⟨A,c,rfl⟩:=dh hQ.own
 have HRW:=hid (show BF w2.heap.size w4 (.slice A xs.length c) (.slice B its.length d) xs its from ⟨hQ.own,hQ.kids,hL.row,fun x hx b hb9=>by
  obtain⟨ys,hy,hyn⟩:=hM.new;rw [List.nil_append] at hy
  exact Nat.le_trans (by simp) (hyn x (hy ▸ hx) b hb9),fun b hb9=>Nat.le_trans (by simp) (hL.lo b hb9)⟩)
 have Lx:=hid (HRW.out.UH rfl rfl hkl);have TI:=hid hkl;have Ey:=hid hQ.blk;have nA:=hid (show Wf (aA xs) by rw [rC.out];exact HG.out.wf);rw [hb] at Ey
 clear hL hQ hM HB3 lS HQ HP HR uM hkl hb;obtain⟨g,hg⟩:∃ g,g=w2.heap.size:=⟨_,rfl⟩;rw [← hg] at Ey hw2 HRW ⊢
 clear hg;obtain⟨N,hN⟩:∃ N,N=xs.length:=⟨_,rfl⟩;obtain⟨M,hM⟩:∃ M,M=its.length:=⟨_,rfl⟩;have hlen':=hlen;rw [← hN] at Ey hlen' HRW
 rw [← hM] at Ey Oz HRW
 have HN:=hid hN;have HM:=hid hM;clear hN hM;have TL:=hid (show Mist.large ⟨u.ns,its⟩=(decide (800 < N) || decide (60 < M)) by unfold Mist.large;rw [HN.out,HM.out,← aD,rC.out]);have HDP:=hid fun W (hb:Below w4.heap.size w4 W)=>C8 A B c M d xs its W (Lx.out.below hb) nA.out (by omega)
 have Jh:=hid fun W (hb:Below w4.heap.size w4 W) i x hx hC=>IQ A B c M d i xs its x W (Lx.out.below hb) hx (by omega) hC
 rw [← HN.out] at HDP Jh
 have p2:=Ey.out.cell 2;have p3:=Ey.out.cell 3;have p4:=Ey.out.cell 4;have q0:=tO.out.cell 0;have q1:=tO.out.cell 1;have r0:=tO.out.frozen 0;have r1:=tO.out.frozen 1;by_cases h60:60 < M
 ·have e60:decide (60 < M)=true:=aaU h60;have e60':decide (60 < (M:Int))=true:=aaU (by omega);have HX:=hid (show jy ⟨u.ns,its⟩=(0,5) by unfold jy;rw [if_pos (Or.inl (by rw [TL.out,e60,Bool.or_true]))]);clear h60;go_wp2_with fail;have hz:=(tO.out.d_ 0 (.slice none 0 0)).d_ 1 (.slice none 0 0);have z0:=hz.cell 0;have z1:=hz.cell 1;refine bodyPost_ret (v:=.tuple #[.agg #[.slice none 0 0,.slice none 0 0],.int .i64 0,.int .i64 5]) (by simp [results,Tryz.f18,go_sem,z0,z1]) rfl ⟨?_,.inl ⟨by rw [HX.out];show (5:Int) ≠ 0;decide,by rw [HX.out]⟩⟩
  repeat (first|(with_reducible exact qx.out)|(with_reducible refine dx ?_ ?_)|(with_reducible refine Below.drew ?_) | omega)
 have e60:decide (60 < M)=false:=aaV h60;have e60':decide (60 < (M:Int))=false:=aaV (by omega);by_cases h800:800 < N
 ·have e800:decide (800 < N)=true:=aaU h800;have e800':decide (800 < (N:Int))=true:=aaU (by omega);have HX:=hid (show jy ⟨u.ns,its⟩=(0,5) by unfold jy;rw [if_pos (Or.inl (by rw [TL.out,e800,Bool.true_or]))]);clear h60 h800;go_wp2_with fail;have hz:=(tO.out.d_ 0 (.slice none 0 0)).d_ 1 (.slice none 0 0);have z0:=hz.cell 0;have z1:=hz.cell 1;refine bodyPost_ret (v:=.tuple #[.agg #[.slice none 0 0,.slice none 0 0],.int .i64 0,.int .i64 5]) (by simp [results,Tryz.f18,go_sem,z0,z1]) rfl ⟨?_,.inl ⟨by rw [HX.out];show (5:Int) ≠ 0;decide,by rw [HX.out]⟩⟩
  repeat (first|(with_reducible exact qx.out)|(with_reducible refine dx ?_ ?_)|(with_reducible refine Below.drew ?_) | omega)
 have e800:decide (800 < N)=false:=aaV h800;have e800':decide (800 < (N:Int))=false:=aaV (by omega);clear h60 h800;have eH:=hid (show Mist.large ⟨u.ns,its⟩=false by rw [TL.out,e60,e800];rfl);go_wp2_with fail;refine (HDP.out _ (Below.refl _ _)).mono ?_;rintro e w5⟨rfl,hb5⟩;obtain⟨D,hD⟩:∃ D,D=jB (aA xs):=⟨_,rfl⟩;rw [← hD];have HDD:=hid (show om ⟨u.ns,its⟩=D by rw [hD,rC.out];rfl);clear hD;have cu:=hid (tO.out.below hb5 tO.out.lt);have iU:=hid (Ey.out.below hb5 Ey.out.lt);have jO:=hid (qx.out.trans (hb5.mono qx.out.size));have TS:=hid hb5;clear hb5 p2 p3 p4 q0 q1 r0 r1 Ey tO qx;have p2:=iU.out.cell 2;have p3:=iU.out.cell 3;have q0:=cu.out.cell 0;have q1:=cu.out.cell 1;have r0:=cu.out.frozen 0;have r1:=cu.out.frozen 1;by_cases Du:30 < D
 ·have d3:decide (30 < D)=true:=aaU Du;have HX:=hid (show jy ⟨u.ns,its⟩=(0,5) by unfold jy;rw [if_pos (Or.inr (by rw [HDD.out];exact Du))]);clear Du;go_wp2_with fail;have hz:=(cu.out.d_ 0 (.slice none 0 0)).d_ 1 (.slice none 0 0);have z0:=hz.cell 0;have z1:=hz.cell 1;refine bodyPost_ret (v:=.tuple #[.agg #[.slice none 0 0,.slice none 0 0],.int .i64 0,.int .i64 5]) (by simp [results,Tryz.f18,go_sem,z0,z1]) rfl ⟨?_,.inl ⟨by rw [HX.out];show (5:Int) ≠ 0;decide,by rw [HX.out]⟩⟩
  repeat (first|(with_reducible exact jO.out)|(with_reducible refine dx ?_ ?_)|(with_reducible refine Below.drew ?_) | omega)
 have d3:decide (30 < D)=false:=aaV Du
 have HX:=hid (show jy ⟨u.ns,its⟩=match u.ns.find? (fun x=>!gD ⟨u.ns,its⟩ x) with
  | some x=>(x.at_,3)
  | none=>(0,0) by unfold jy;rw [if_neg (by rw [eH.out,HDD.out];simp;omega)])
 clear Du;have F9:=hid (show (⟨aA xs,its⟩:Tr)=⟨u.ns,its⟩ by rw [rC.out]);rw [F9.out] at Jh
 clear q0 q1 r0 r1;go_wp2_with fail;go_loopw [9] (fun i wr=>∃ k:Nat,k≤N∧i=.int .i64 k∧Hid (∀ (j:Nat) y,j < k→xs[j]? = some y→gD ⟨u.ns,its⟩ y.1=true)∧Hid (aC wr w.heap.size 26 #[.slice none 0 0,.slice none 0 0])∧Hid (aC wr g 66 #[.slice At l.length ct,.int .i64 u.k,.slice A N c,.slice B M d,.bool false])∧Hid (Below w.heap.size w wr)∧Hid (Below w4.heap.size w4 wr)) (fun i _=>N - (intOf i).toNat)
 case atStart=>exact⟨0,aaL _,rfl,hid (fun j y hj=>by omega),cu,iU,jO,TS⟩
 case round =>
  clear cu iU jO TS p2 p3;obtain⟨wo,rfl⟩:∃ wo:World,wo=wr:=⟨_,rfl⟩;obtain⟨k,hk,rfl,HK,HB,HP,HL,HW⟩:=hrel;have p2:=HP.out.cell 2;have p3:=HP.out.cell 3;by_cases hkn:k < N
  ·have i3:decide (k < N)=true:=aaU hkn;have i3':decide ((k:Int) < (N:Int))=true:=aaU (by omega);obtain⟨x,hx⟩:∃ x,xs[k]? = some x:=jD (by rw [← HN.out];exact hkn);have HC:=hid (HCH.out k x hx);have tK:=hid hx;clear hx
   cases hrs:gD ⟨u.ns,its⟩ x.1
   ·have HXX:=hid (show jy ⟨u.ns,its⟩=(x.1.at_,3) by
     rw [HX.out,← rC.out];rw [Ui (P:=fun x=>!gD ⟨aA xs,its⟩ x) tK.out (fun j y hj hy=>by rw [F9.out];simp [HK.out j y hj hy]) (by rw [F9.out];simp [hrs])])
    have Jr:=hid hrs;clear hrs;go_wp2_with fail;refine (Jh.out _ HW.out k x tK.out HC.out).mono ?_;rintro e w7⟨rfl,nI⟩;rw [Jr.out];have uN:=hid (HB.out.below nI HB.out.lt);have HP7:=hid (HP.out.below nI HP.out.lt);have U0:=hid (HL.out.trans (nI.mono HL.out.size));have hT7:=Lx.out.below (HW.out.trans (nI.mono HW.out.size));clear nI p2 p3 HB HP HL HW;have p2:=HP7.out.cell 2;have q0:=uN.out.cell 0;have q1:=uN.out.cell 1;have r0:=uN.out.frozen 0;have r1:=uN.out.frozen 1;obtain⟨b,o,rfl,yc⟩:=hT7.nodes (by rw [← HN.out];omega);have c4:=yc.c4 k x tK.out;have i1:(0:Int)≤(k:Int):=by omega
    have i2:(k:Int) < (N:Int):=by omega
    clear yc hT7;go_wp2_with fail;go_region
    all_goals
     go_wp2_with fail;have hz:=(uN.out.d_ 0 (.slice none 0 0)).d_ 1 (.slice none 0 0);have z0:=hz.cell 0;have z1:=hz.cell 1;refine bodyPost_ret (v:=.tuple #[.agg #[.slice none 0 0,.slice none 0 0],.int .i64 x.1.at_,.int .i64 3]) (by simp [results,Tryz.f18,go_sem,z0,z1]) rfl ⟨?_,.inl ⟨by rw [HXX.out];show (3:Int) ≠ 0;decide,by rw [HXX.out]⟩⟩
     repeat (first|(with_reducible exact U0.out)|(with_reducible refine dx ?_ ?_)|(with_reducible refine Below.drew ?_) | omega)
   ·have Jr:=hid hrs;clear hrs;go_wp2_with fail;refine (Jh.out _ HW.out k x tK.out HC.out).mono ?_;rintro e w7⟨rfl,nI⟩;rw [Jr.out];go_wp2_with fail
    exact⟨⟨k+1,by omega,by go_num,hid (fun j y hj hy=>by
     by_cases hjk:j=k
     ·subst hjk;obtain rfl:=aaP (hy.symm.trans tK.out);exact Jr.out
     ·exact HK.out j y (by omega) hy),hid (HB.out.below nI HB.out.lt),hid (HP.out.below nI HP.out.lt),hid (HL.out.trans (nI.mono HL.out.size)),hid (HW.out.trans (nI.mono HW.out.size))⟩,by simp only [intOf];omega⟩
  ·have i3:decide (k < N)=false:=aaV hkn;have i3':decide ((k:Int) < (N:Int))=false:=aaV (by omega)
   have HXX:=hid (show jy ⟨u.ns,its⟩=(0,0) by
    rw [HX.out,← rC.out];rw [find_no (P:=fun x=>!gD ⟨aA xs,its⟩ x) (fun j y hj hy=>by rw [F9.out];simp [HK.out j y (by rw [← HN.out] at hj;omega) hy])])
   have q0:=HB.out.cell 0;have q1:=HB.out.cell 1;have r0:=HB.out.frozen 0;have r1:=HB.out.frozen 1;have hbl:=HB.out.lt;have HZ:=hid ((HB.out.d_ 0 (.slice A N c)).d_ 1 (.slice B M d));go_wp2_with fail;have z0:=HZ.out.cell 0;have z1:=HZ.out.cell 1;refine bodyPost_ret (v:=.tuple #[.agg #[.slice A N c,.slice B M d],.int .i64 0,.int .i64 0]) (by simp [results,Tryz.f18,go_sem,z0,z1]) rfl ⟨?_,.inr ⟨by rw [HXX.out],A,B,c,d,xs,by rw [← HN.out,HM.out],rC.out,?_⟩⟩
   ·repeat (first|(with_reducible exact HL.out)|(with_reducible refine dx ?_ ?_) | omega)
   ·exact (((HRW.out.below HW.out).set hw2).set hw2).UH HN.out HM.out TI.out
end Go.Proofs.YthepmkjggfijoaaGreatDoor
