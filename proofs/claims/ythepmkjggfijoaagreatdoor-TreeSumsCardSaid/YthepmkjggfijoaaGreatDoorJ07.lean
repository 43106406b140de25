/-
  A part of the proof.
-/
import Derived.Test.YthepmkjggfijoaaGreatDoorSA
import Derived.Test.YthepmkjggfijoaaGreatDoorJ05
import Derived.Test.YthepmkjggfijoaaGreatDoorJ06
set_option linter.all false
set_option maxRecDepth 100000
set_option maxHeartbeats 4000000
open Go.Lib (hid)
namespace Go.Proofs.YthepmkjggfijoaaGreatDoor
open Go.RowKit Mist
attribute [local go_sem] aj aH aS aB ak
theorem pl_if {wild:Bool}{d N:Nat}{E:abd→abb}(hN:N≤900000)(hd:d≤100)(X:Hid (aci wild E (N+50000) (.int .i64 (d:Int))))(b:Nat)(hb:b % 7=0){g:Nat}{iv:Value}{w:World}{s:abd}{xs:List NV}{nv lv:Value}(H:Hid (abH g wild iv w s xs nv lv))(hn:s.ns.length≤N) :
  Calls Tryz.prog 175 #[.pointer (some ⟨g,0,none⟩),.int .i64 (b:Int),.int .i64 ((d:Int)+1)] w (GPost g wild iv w xs nv (compG wild E b s)):=by
 have M:=hid (abJ.refl (g:=g) (w:=w) (xs:=xs) (nv:=nv));have zd:IntKind.i64.wrap ((d:Int)+1 - 1)=(d:Int):=by rw [Int.add_sub_cancel];exact IntWalk.i64_in _ ⟨by omega,by omega⟩
 have hm7:Int.tmod (b:Int) 7=0:=by rw [Int.tmod_eq_emod_of_nonneg (by omega)];omega
 have HB:=hid (show compG wild E b s=ifG wild E s.tl by unfold compG;simp only;rw [if_pos hb]);go_in
 go_wp2_with fail;refine (nxH H M).mono ?_;clear H M;rintro e w1⟨lv1,rfl,q1,H,M,-⟩;go_wp2_with fail;refine (wdH (s.nx) _).mono ?_;rintro e w2⟨x,rfl,Hx,lx,rfl⟩;clear hb;go_wp2_with fail;refine (exH H M X (by omega)).mono ?_;clear H M;rintro e w3⟨a3,T3,Xj,FM,lv3,rfl,gM,HT3,O3,tl3,bn3,H,M,-⟩;go_wp2_with fail;refine (exH H M X (by omega)).mono ?_;clear H M;rintro e w4⟨a4,T4,xs4,yH,lv4,rfl,fq,Ji,acn,tl4,bn4,H,M,-⟩;go_wp2_with fail;refine (exH H M X (by omega)).mono ?_;clear H M;rintro e w5⟨a5,T5,xs5,Fu,lv5,rfl,jX,zO,aco,tl5,bn5,H,M,-⟩;go_wp2_with fail;refine (gpH H M).mono ?_;clear H M;rintro e w6⟨abX,lv6,rfl,HG6,gl6,q6,H,M,-⟩;have cp1_0:¬ 9223372036854775807 < 2+abX.length:=by omega
 have cp1_1:¬ 9223372036854775807 < 2+abX.length+T3.length:=by omega
 go_wp2_with fail;refine (gpH H M).mono ?_;clear H M;rintro e w7⟨abY,lv7,rfl,HG7,gl7,q7,H,M,-⟩;clear cp1_0 cp1_1;have cp2_0:¬ 9223372036854775807 < 2+abX.length:=by omega
 have cp2_1:¬ 9223372036854775807 < 2+abX.length+T3.length:=by omega
 have cp2_2:¬ 9223372036854775807 < 2+abX.length+T3.length+abY.length:=by omega
 have cp2_3:¬ 9223372036854775807 < 2+abX.length+T3.length+abY.length+4:=by omega
 go_wp2_with fail;refine (gpH H M).mono ?_;clear H M;rintro e w8⟨abZ,lv8,rfl,HG8,gl8,q8,H,M,-⟩;clear cp2_0 cp2_1 cp2_2 cp2_3;have cp3_0:¬ 9223372036854775807 < 2+abX.length:=by omega
 have cp3_1:¬ 9223372036854775807 < 2+abX.length+T3.length:=by omega
 have cp3_2:¬ 9223372036854775807 < 2+abX.length+T3.length+abY.length:=by omega
 have cp3_3:¬ 9223372036854775807 < 2+abX.length+T3.length+abY.length+4:=by omega
 have cp3_4:¬ 9223372036854775807 < 2+abX.length+T3.length+abY.length+4+abZ.length:=by omega
 have cp3_5:¬ 9223372036854775807 < 2+abX.length+T3.length+abY.length+4+abZ.length+T4.length:=by omega
 go_wp2_with fail;refine (gpH H M).mono ?_;clear H M;rintro e w9⟨ab0,lv9,rfl,HG9,gl9,acs,H,M,-⟩;clear cp3_0 cp3_1 cp3_2 cp3_3 cp3_4 cp3_5;have cp4_0:¬ 9223372036854775807 < 2+abX.length:=by omega
 have cp4_1:¬ 9223372036854775807 < 2+abX.length+T3.length:=by omega
 have cp4_2:¬ 9223372036854775807 < 2+abX.length+T3.length+abY.length:=by omega
 have cp4_3:¬ 9223372036854775807 < 2+abX.length+T3.length+abY.length+4:=by omega
 have cp4_4:¬ 9223372036854775807 < 2+abX.length+T3.length+abY.length+4+abZ.length:=by omega
 have cp4_5:¬ 9223372036854775807 < 2+abX.length+T3.length+abY.length+4+abZ.length+T4.length:=by omega
 have cp4_6:¬ 9223372036854775807 < 2+abX.length+T3.length+abY.length+4+abZ.length+T4.length+ab0.length:=by omega
 have cp4_7:¬ 9223372036854775807 < 2+abX.length+T3.length+abY.length+4+abZ.length+T4.length+ab0.length+4:=by omega
 go_wp2_with fail;refine (gpH H M).mono ?_;clear H M;rintro e Qv⟨G10,lv10,rfl,HG10,gl10,q10,H,M,-⟩;clear cp4_0 cp4_1 cp4_2 cp4_3 cp4_4 cp4_5 cp4_6 cp4_7;have cq0:¬ 9223372036854775807 < 2+abX.length:=by omega
 have cq1:¬ 9223372036854775807 < 2+abX.length+T3.length:=by omega
 have cq2:¬ 9223372036854775807 < 2+abX.length+T3.length+abY.length:=by omega
 have cq3:¬ 9223372036854775807 < 2+abX.length+T3.length+abY.length+4:=by omega
 have cq4:¬ 9223372036854775807 < 2+abX.length+T3.length+abY.length+4+abZ.length:=by omega
 have cq5:¬ 9223372036854775807 < 2+abX.length+T3.length+abY.length+4+abZ.length+T4.length:=by omega
 have cq6:¬ 9223372036854775807 < 2+abX.length+T3.length+abY.length+4+abZ.length+T4.length+ab0.length:=by omega
 have cq7:¬ 9223372036854775807 < 2+abX.length+T3.length+abY.length+4+abZ.length+T4.length+ab0.length+4:=by omega
 have cq8:¬ 9223372036854775807 < 2+abX.length+T3.length+abY.length+4+abZ.length+T4.length+ab0.length+4+G10.length:=by omega
 have cq9:¬ 9223372036854775807 < 2+abX.length+T3.length+abY.length+4+abZ.length+T4.length+ab0.length+4+G10.length+T5.length:=by omega
 go_wp2_with fail;obtain⟨Y,HY⟩:∃ Y:Bs,Hid ([105,102] ++ abX ++ T3 ++ abY ++ [116,104,101,110] ++ abZ ++ T4 ++ ab0 ++ [101,108,115,101] ++ G10 ++ T5=Y):=⟨_,hid rfl⟩;rw [show (⟨#[105,102]⟩:ByteArray) ++ aM (abX) ++ aM (T3) ++ aM (abY) ++ (⟨#[116,104,101,110]⟩:ByteArray) ++ aM (abZ) ++ aM (T4) ++ aM (ab0) ++ (⟨#[101,108,115,101]⟩:ByteArray) ++ aM (G10) ++ aM (T5)=aM Y from by rw [← HY.out] <;> (simp only [← ak];rfl)];have abT:Y.length≤10000000:=by rw [← HY.out];simp only [aaO,List.length_cons,List.length_nil];omega
 refine (smH H M (t:=Y) (by omega)).mono ?_;clear H M;rintro e Et⟨S11,lv11,rfl,HS11,q11,H,M⟩;go_wp2_with fail;refine (ptH H M [a3.ix,a4.ix,a5.ix] (by simp) (by omega)).mono ?_;clear H M;rintro e wQ⟨Dr,uL,rfl,H,M,-⟩;go_wp2_with fail;go_ret2
 have HF:=hid (show ifG wild E s.tl=acP (someP wild (([],3,[105,102]) :: (Pcs.on abX a3.pc ++ (abY,3,[116,104,101,110]) :: (Pcs.on abZ a4.pc ++ (ab0,3,[101,108,115,101]) :: Pcs.on G10 a5.pc))) (acC wild (acC wild (acC wild (acC wild (acC wild (a5.st))))))) (someS wild (acC wild (acC wild (acC wild (acC wild (acC wild (a5.st))))))) ⟨19,[],0,[a3.ix,a4.ix,a5.ix],0⟩ from by
  unfold ifG
  try simp only
  rw [gM.out,fq.out,jX.out,HG6.out,HG7.out,HG8.out,HG9.out,HG10.out] <;> rfl)
 rw [HB.out,HF.out]
 refine⟨?_,_,_,_,H.out,M.out⟩
 show _=Ending.returned (.tuple #[.string (aM (aN (someP wild (([],3,[105,102]) :: (Pcs.on abX a3.pc ++ (abY,3,[116,104,101,110]) :: (Pcs.on abZ a4.pc ++ (ab0,3,[101,108,115,101]) :: Pcs.on G10 a5.pc))) (acC wild (acC wild (acC wild (acC wild (acC wild (a5.st))))))))),.int .i64 (someS wild (acC wild (acC wild (acC wild (acC wild (acC wild (a5.st))))))).id])
 have HI:aN (([],3,[105,102]) :: (Pcs.on abX a3.pc ++ (abY,3,[116,104,101,110]) :: (Pcs.on abZ a4.pc ++ (ab0,3,[101,108,115,101]) :: Pcs.on G10 a5.pc)))=Y:=by
  simp only [aN,qZ,sgn];rw [O3.out,acn.out,aco.out,← HY.out] <;> simp only [List.nil_append,List.append_nil,List.append_assoc,List.cons_append]
 rw [someT_text,HI,HS11.out];rfl
theorem pl_let {wild:Bool}{d N:Nat}{E:abd→abb}(hN:N≤900000)(hd:d≤100)(X:Hid (aci wild E (N+50000) (.int .i64 (d:Int))))(b:Nat)(hb:b % 7=1){g:Nat}{iv:Value}{w:World}{s:abd}{xs:List NV}{nv lv:Value}(H:Hid (abH g wild iv w s xs nv lv))(hn:s.ns.length≤N) :
  Calls Tryz.prog 175 #[.pointer (some ⟨g,0,none⟩),.int .i64 (b:Int),.int .i64 ((d:Int)+1)] w (GPost g wild iv w xs nv (compG wild E b s)):=by
 have M:=hid (abJ.refl (g:=g) (w:=w) (xs:=xs) (nv:=nv));have zd:IntKind.i64.wrap ((d:Int)+1 - 1)=(d:Int):=by rw [Int.add_sub_cancel];exact IntWalk.i64_in _ ⟨by omega,by omega⟩
 have hm7:Int.tmod (b:Int) 7=1:=by rw [Int.tmod_eq_emod_of_nonneg (by omega)];omega
 have HB:=hid (show compG wild E b s=letG wild E (acH s.nx) s.tl by unfold compG;simp only;rw [if_neg (by omega)];rw [if_pos hb]);go_in
 go_wp2_with fail;refine (nxH H M).mono ?_;clear H M;rintro e w1⟨lv1,rfl,q1,H,M,-⟩;go_wp2_with fail;refine (wdH (s.nx) _).mono ?_;rintro e w2⟨x,rfl,Hx,lx,rfl⟩;rw [Hx.out] at HB
 clear hb;go_wp2_with fail;refine (exH H M X (by omega)).mono ?_;clear H M;rintro e w3⟨a3,T3,Xj,FM,lv3,rfl,gM,HT3,O3,tl3,bn3,H,M,-⟩;go_wp2_with fail;refine (exH H M X (by omega)).mono ?_;clear H M;rintro e w4⟨a4,T4,xs4,yH,lv4,rfl,fq,Ji,acn,tl4,bn4,H,M,-⟩;go_wp2_with fail;refine (gpH H M).mono ?_;clear H M;rintro e w5⟨abW,lv5,rfl,HG5,gl5,q5,H,M,-⟩;have cp1_0:¬ 9223372036854775807 < 3+abW.length:=by omega
 have cp1_1:¬ 9223372036854775807 < 3+abW.length+x.length:=by omega
 go_wp2_with fail;refine (gpH H M).mono ?_;clear H M;rintro e w6⟨abX,lv6,rfl,HG6,gl6,q6,H,M,-⟩;clear cp1_0 cp1_1;have cp2_0:¬ 9223372036854775807 < 3+abW.length:=by omega
 have cp2_1:¬ 9223372036854775807 < 3+abW.length+x.length:=by omega
 have cp2_2:¬ 9223372036854775807 < 3+abW.length+x.length+abX.length:=by omega
 have cp2_3:¬ 9223372036854775807 < 3+abW.length+x.length+abX.length+1:=by omega
 have cp2_4:¬ 9223372036854775807 < 3+abW.length+x.length+abX.length+1+T3.length:=by omega
 go_wp2_with fail;refine (gpH H M).mono ?_;clear H M;rintro e w7⟨abY,lv7,rfl,HG7,gl7,q7,H,M,-⟩;clear cp2_0 cp2_1 cp2_2 cp2_3 cp2_4;have cp3_0:¬ 9223372036854775807 < 3+abW.length:=by omega
 have cp3_1:¬ 9223372036854775807 < 3+abW.length+x.length:=by omega
 have cp3_2:¬ 9223372036854775807 < 3+abW.length+x.length+abX.length:=by omega
 have cp3_3:¬ 9223372036854775807 < 3+abW.length+x.length+abX.length+1:=by omega
 have cp3_4:¬ 9223372036854775807 < 3+abW.length+x.length+abX.length+1+T3.length:=by omega
 have cp3_5:¬ 9223372036854775807 < 3+abW.length+x.length+abX.length+1+T3.length+abY.length:=by omega
 have cp3_6:¬ 9223372036854775807 < 3+abW.length+x.length+abX.length+1+T3.length+abY.length+2:=by omega
 go_wp2_with fail;refine (gpH H M).mono ?_;clear H M;rintro e w8⟨abZ,lv8,rfl,HG8,gl8,q8,H,M,-⟩;clear cp3_0 cp3_1 cp3_2 cp3_3 cp3_4 cp3_5 cp3_6;have cq0:¬ 9223372036854775807 < 3+abW.length:=by omega
 have cq1:¬ 9223372036854775807 < 3+abW.length+x.length:=by omega
 have cq2:¬ 9223372036854775807 < 3+abW.length+x.length+abX.length:=by omega
 have cq3:¬ 9223372036854775807 < 3+abW.length+x.length+abX.length+1:=by omega
 have cq4:¬ 9223372036854775807 < 3+abW.length+x.length+abX.length+1+T3.length:=by omega
 have cq5:¬ 9223372036854775807 < 3+abW.length+x.length+abX.length+1+T3.length+abY.length:=by omega
 have cq6:¬ 9223372036854775807 < 3+abW.length+x.length+abX.length+1+T3.length+abY.length+2:=by omega
 have cq7:¬ 9223372036854775807 < 3+abW.length+x.length+abX.length+1+T3.length+abY.length+2+abZ.length:=by omega
 have cq8:¬ 9223372036854775807 < 3+abW.length+x.length+abX.length+1+T3.length+abY.length+2+abZ.length+T4.length:=by omega
 go_wp2_with fail;obtain⟨Y,HY⟩:∃ Y:Bs,Hid ([108,101,116] ++ abW ++ x ++ abX ++ [61] ++ T3 ++ abY ++ [105,110] ++ abZ ++ T4=Y):=⟨_,hid rfl⟩;rw [show (⟨#[108,101,116]⟩:ByteArray) ++ aM (abW) ++ aM (x) ++ aM (abX) ++ (⟨#[61]⟩:ByteArray) ++ aM (T3) ++ aM (abY) ++ (⟨#[105,110]⟩:ByteArray) ++ aM (abZ) ++ aM (T4)=aM Y from by rw [← HY.out] <;> (simp only [← ak];rfl)];have abT:Y.length≤10000000:=by rw [← HY.out];simp only [aaO,List.length_cons,List.length_nil];omega
 refine (smH H M (t:=Y) (by omega)).mono ?_;clear H M;rintro e w9⟨acp,lv9,rfl,HS9,acs,H,M⟩;go_wp2_with fail;refine (ptH H M [a3.ix,a4.ix] (by simp) (by omega)).mono ?_;clear H M;rintro e Qv⟨xs10,nv10,rfl,H,M,-⟩;go_wp2_with fail;go_ret2
 have HF:=hid (show letG wild E x s.tl=acP (someP wild (([],3,[108,101,116]) :: (abW,1,x) :: (abX,4,[61]) :: (a3.pc ++ (abY,3,[105,110]) :: Pcs.on abZ a4.pc)) (acC wild (acC wild (acC wild (acC wild (a4.st)))))) (someS wild (acC wild (acC wild (acC wild (acC wild (a4.st)))))) ⟨20,x,0,[a3.ix,a4.ix],0⟩ from by
  unfold letG
  try simp only
  rw [gM.out,fq.out,HG5.out,HG6.out,HG7.out,HG8.out] <;> rfl)
 rw [HB.out,HF.out]
 refine⟨?_,_,_,_,H.out,M.out⟩
 show _=Ending.returned (.tuple #[.string (aM (aN (someP wild (([],3,[108,101,116]) :: (abW,1,x) :: (abX,4,[61]) :: (a3.pc ++ (abY,3,[105,110]) :: Pcs.on abZ a4.pc)) (acC wild (acC wild (acC wild (acC wild (a4.st)))))))),.int .i64 (someS wild (acC wild (acC wild (acC wild (acC wild (a4.st)))))).id])
 have HI:aN (([],3,[108,101,116]) :: (abW,1,x) :: (abX,4,[61]) :: (a3.pc ++ (abY,3,[105,110]) :: Pcs.on abZ a4.pc))=Y:=by
  simp only [aN,qZ,sgn];rw [acn.out,HT3.out,← HY.out] <;> simp only [List.nil_append,List.append_nil,List.append_assoc,List.cons_append]
 rw [someT_text,HI,HS9.out];rfl
theorem pl_field {wild:Bool}{d N:Nat}{E:abd→abb}(hN:N≤900000)(hd:d≤100)(X:Hid (aci wild E (N+50000) (.int .i64 (d:Int))))(b:Nat)(hb:b % 7=3){g:Nat}{iv:Value}{w:World}{s:abd}{xs:List NV}{nv lv:Value}(H:Hid (abH g wild iv w s xs nv lv))(hn:s.ns.length≤N) :
  Calls Tryz.prog 175 #[.pointer (some ⟨g,0,none⟩),.int .i64 (b:Int),.int .i64 ((d:Int)+1)] w (GPost g wild iv w xs nv (compG wild E b s)):=by
 have M:=hid (abJ.refl (g:=g) (w:=w) (xs:=xs) (nv:=nv));have zd:IntKind.i64.wrap ((d:Int)+1 - 1)=(d:Int):=by rw [Int.add_sub_cancel];exact IntWalk.i64_in _ ⟨by omega,by omega⟩
 have hm7:Int.tmod (b:Int) 7=3:=by rw [Int.tmod_eq_emod_of_nonneg (by omega)];omega
 have HB:=hid (show compG wild E b s=fieldG wild E (acH s.nx) s.tl by unfold compG;simp only;rw [if_neg (by omega)];rw [if_neg (by omega)];rw [if_neg (by omega)];rw [if_pos hb]);go_in
 go_wp2_with fail;refine (nxH H M).mono ?_;clear H M;rintro e w1⟨lv1,rfl,q1,H,M,-⟩;go_wp2_with fail;refine (wdH (s.nx) _).mono ?_;rintro e w2⟨x,rfl,Hx,lx,rfl⟩;rw [Hx.out] at HB
 clear hb;go_wp2_with fail;refine (exH H M X (by omega)).mono ?_;clear H M;rintro e w3⟨a3,T3,Xj,FM,lv3,rfl,gM,HT3,O3,tl3,bn3,H,M,-⟩;have cp0_0:¬ 9223372036854775807 < 1+T3.length:=by omega
 have cp0_1:¬ 9223372036854775807 < 1+T3.length+1:=by omega
 go_wp2_with fail;refine (gpH H M).mono ?_;clear H M;rintro e w4⟨G4,lv4,rfl,Jf,gl4,q4,H,M,-⟩;clear cp0_0 cp0_1;have cq0:¬ 9223372036854775807 < 1+T3.length:=by omega
 have cq1:¬ 9223372036854775807 < 1+T3.length+1:=by omega
 have cq2:¬ 9223372036854775807 < 1+T3.length+1+G4.length:=by omega
 have cq3:¬ 9223372036854775807 < 1+T3.length+1+G4.length+1:=by omega
 have cq4:¬ 9223372036854775807 < 1+T3.length+1+G4.length+1+x.length:=by omega
 go_wp2_with fail;obtain⟨Y,HY⟩:∃ Y:Bs,Hid ([40] ++ T3 ++ [41] ++ G4 ++ [46] ++ x=Y):=⟨_,hid rfl⟩;rw [show (⟨#[40]⟩:ByteArray) ++ aM (T3) ++ (⟨#[41]⟩:ByteArray) ++ aM (G4) ++ (⟨#[46]⟩:ByteArray) ++ aM (x)=aM Y from by rw [← HY.out] <;> (simp only [← ak];rfl)];have abT:Y.length≤10000000:=by rw [← HY.out];simp only [aaO,List.length_cons,List.length_nil];omega
 refine (ptH H M [a3.ix] (by simp) (by omega)).mono ?_;clear H M;rintro e w5⟨xs5,Fu,rfl,H,M,-⟩;go_wp2_with fail;go_ret2
 have HF:=hid (show fieldG wild E x s.tl=acP (sgn [40] :: (a3.pc ++ [sgn [41],(G4,4,[46]),([],1,x)])) (acC wild (a3.st)) ⟨22,x,0,[a3.ix],0⟩ from by
  unfold fieldG
  try simp only
  rw [gM.out,Jf.out] <;> rfl)
 rw [HB.out,HF.out]
 refine⟨?_,_,_,_,H.out,M.out⟩
 show _=Ending.returned (.tuple #[.string (aM (aN ((sgn [40] :: (a3.pc ++ [sgn [41],(G4,4,[46]),([],1,x)]))))),.int .i64 (acC wild (a3.st)).id])
 have HI:aN (sgn [40] :: (a3.pc ++ [sgn [41],(G4,4,[46]),([],1,x)]))=Y:=by
  simp only [aN,qZ,sgn];rw [HT3.out,← HY.out] <;> simp only [List.nil_append,List.append_nil,List.append_assoc,List.cons_append]
 rw [HI];rfl
theorem pl_index {wild:Bool}{d N:Nat}{E:abd→abb}(hN:N≤900000)(hd:d≤100)(X:Hid (aci wild E (N+50000) (.int .i64 (d:Int))))(b:Nat)(hb:b % 7=4){g:Nat}{iv:Value}{w:World}{s:abd}{xs:List NV}{nv lv:Value}(H:Hid (abH g wild iv w s xs nv lv))(hn:s.ns.length≤N) :
  Calls Tryz.prog 175 #[.pointer (some ⟨g,0,none⟩),.int .i64 (b:Int),.int .i64 ((d:Int)+1)] w (GPost g wild iv w xs nv (compG wild E b s)):=by
 have M:=hid (abJ.refl (g:=g) (w:=w) (xs:=xs) (nv:=nv));have zd:IntKind.i64.wrap ((d:Int)+1 - 1)=(d:Int):=by rw [Int.add_sub_cancel];exact IntWalk.i64_in _ ⟨by omega,by omega⟩
 have hm7:Int.tmod (b:Int) 7=4:=by rw [Int.tmod_eq_emod_of_nonneg (by omega)];omega
 have HB:=hid (show compG wild E b s=indexG wild E s.tl by unfold compG;simp only;rw [if_neg (by omega)];rw [if_neg (by omega)];rw [if_neg (by omega)];rw [if_neg (by omega)];rw [if_pos hb]);go_in
 go_wp2_with fail;refine (nxH H M).mono ?_;clear H M;rintro e w1⟨lv1,rfl,q1,H,M,-⟩;go_wp2_with fail;refine (wdH (s.nx) _).mono ?_;rintro e w2⟨x,rfl,Hx,lx,rfl⟩;clear hb;go_wp2_with fail;refine (exH H M X (by omega)).mono ?_;clear H M;rintro e w3⟨a3,T3,Xj,FM,lv3,rfl,gM,HT3,O3,tl3,bn3,H,M,-⟩;go_wp2_with fail;refine (exH H M X (by omega)).mono ?_;clear H M;rintro e w4⟨a4,T4,xs4,yH,lv4,rfl,fq,Ji,acn,tl4,bn4,H,M,-⟩;have cp0_0:¬ 9223372036854775807 < 1+T3.length:=by omega
 have cp0_1:¬ 9223372036854775807 < 1+T3.length+2:=by omega
 have cp0_2:¬ 9223372036854775807 < 1+T3.length+2+T4.length:=by omega
 go_wp2_with fail;refine (gpH H M).mono ?_;clear H M;rintro e w5⟨abW,lv5,rfl,HG5,gl5,q5,H,M,-⟩;clear cp0_0 cp0_1 cp0_2;have cq0:¬ 9223372036854775807 < 1+T3.length:=by omega
 have cq1:¬ 9223372036854775807 < 1+T3.length+2:=by omega
 have cq2:¬ 9223372036854775807 < 1+T3.length+2+T4.length:=by omega
 have cq3:¬ 9223372036854775807 < 1+T3.length+2+T4.length+abW.length:=by omega
 have cq4:¬ 9223372036854775807 < 1+T3.length+2+T4.length+abW.length+1:=by omega
 go_wp2_with fail;obtain⟨Y,HY⟩:∃ Y:Bs,Hid ([40] ++ T3 ++ [41,91] ++ T4 ++ abW ++ [93]=Y):=⟨_,hid rfl⟩;rw [show (⟨#[40]⟩:ByteArray) ++ aM (T3) ++ (⟨#[41,91]⟩:ByteArray) ++ aM (T4) ++ aM (abW) ++ (⟨#[93]⟩:ByteArray)=aM Y from by rw [← HY.out] <;> (simp only [← ak];rfl)];have abT:Y.length≤10000000:=by rw [← HY.out];simp only [aaO,List.length_cons,List.length_nil];omega
 refine (ptH H M [a3.ix,a4.ix] (by simp) (by omega)).mono ?_;clear H M;rintro e w6⟨xs6,XB,rfl,H,M,-⟩;go_wp2_with fail;go_ret2
 have HF:=hid (show indexG wild E s.tl=acP (sgn [40] :: (a3.pc ++ sgn [41] :: sgn [91] :: (a4.pc ++ [(abW,4,[93])]))) (acC wild (a4.st)) ⟨23,[],0,[a3.ix,a4.ix],0⟩ from by
  unfold indexG
  try simp only
  rw [gM.out,fq.out,HG5.out] <;> rfl)
 rw [HB.out,HF.out]
 refine⟨?_,_,_,_,H.out,M.out⟩
 show _=Ending.returned (.tuple #[.string (aM (aN ((sgn [40] :: (a3.pc ++ sgn [41] :: sgn [91] :: (a4.pc ++ [(abW,4,[93])])))))),.int .i64 (acC wild (a4.st)).id])
 have HI:aN (sgn [40] :: (a3.pc ++ sgn [41] :: sgn [91] :: (a4.pc ++ [(abW,4,[93])])))=Y:=by
  simp only [aN,qZ,sgn];rw [HT3.out,Ji.out,← HY.out] <;> simp only [List.nil_append,List.append_nil,List.append_assoc,List.cons_append]
 rw [HI];rfl
theorem pl_call {wild:Bool}{d N:Nat}{E:abd→abb}(hN:N≤900000)(hd:d≤100)(X:Hid (aci wild E (N+50000) (.int .i64 (d:Int))))(ach:Hid (LsC wild E N (.int .i64 ((d:Int)+1))))(b:Nat)(hb:b % 7=2){g:Nat}{iv:Value}{w:World}{s:abd}{xs:List NV}{nv lv:Value}(H:Hid (abH g wild iv w s xs nv lv))(hn:s.ns.length≤N) :
  Calls Tryz.prog 175 #[.pointer (some ⟨g,0,none⟩),.int .i64 (b:Int),.int .i64 ((d:Int)+1)] w (GPost g wild iv w xs nv (compG wild E b s)):=by
 have M:=hid (abJ.refl (g:=g) (w:=w) (xs:=xs) (nv:=nv));have zd:IntKind.i64.wrap ((d:Int)+1 - 1)=(d:Int):=by rw [Int.add_sub_cancel];exact IntWalk.i64_in _ ⟨by omega,by omega⟩
 have hm7:Int.tmod (b:Int) 7=2:=by rw [Int.tmod_eq_emod_of_nonneg (by omega)];omega
 have HB:=hid (show compG wild E b s=callG wild E (acH s.nx) s.tl by unfold compG;simp only;rw [if_neg (by omega)];rw [if_neg (by omega)];rw [if_pos hb]);go_in
 go_wp2_with fail;refine (nxH H M).mono ?_;clear H M;rintro e w1⟨lv1,rfl,q1,H,M,-⟩;go_wp2_with fail;refine (wdH (s.nx) _).mono ?_;rintro e w2⟨x,rfl,Hx,lx,rfl⟩;rw [Hx.out] at HB
 clear hb;obtain⟨m4,hm4⟩:∃ m,m=(s.tl).nx % 4:=⟨_,rfl⟩;have zm4:Int.tmod ((s.tl).nx:Int) 4=(m4:Int):=by rw [Int.tmod_eq_emod_of_nonneg (by omega),hm4];omega
 have Hm4:=hid hm4.symm;have bm4:m4≤3:=by omega
 clear hm4;go_wp2_with fail;refine (nxH H M).mono ?_;clear H M;rintro e w3⟨lv3,rfl,q3,H,M,-⟩;go_wp2_with fail;refine (lsH H M X ach (m:=m4) (by omega) (by omega)).mono ?_;clear H M;rintro e w4⟨r4,T4,A4,c4,xs4,yH,lv4,rfl,fq,Ji,acn,acr,tl4,bn4,LL,H,M,-⟩;have cp0_0:¬ 9223372036854775807 < x.length+1:=by omega
 have cp0_1:¬ 9223372036854775807 < x.length+1+T4.length:=by omega
 go_wp2_with fail;refine (gpH H M).mono ?_;clear H M;rintro e w5⟨abW,lv5,rfl,HG5,gl5,q5,H,M,R⟩
 replace LL:=kp R LL
 clear R;clear cp0_0 cp0_1;have cq0:¬ 9223372036854775807 < x.length+1:=by omega
 have cq1:¬ 9223372036854775807 < x.length+1+T4.length:=by omega
 have cq2:¬ 9223372036854775807 < x.length+1+T4.length+abW.length:=by omega
 have cq3:¬ 9223372036854775807 < x.length+1+T4.length+abW.length+1:=by omega
 go_wp2_with fail;obtain⟨Y,HY⟩:∃ Y:Bs,Hid (x ++ [40] ++ T4 ++ abW ++ [41]=Y):=⟨_,hid rfl⟩;rw [show aM (x) ++ (⟨#[40]⟩:ByteArray) ++ aM (T4) ++ aM (abW) ++ (⟨#[41]⟩:ByteArray)=aM Y from by rw [← HY.out] <;> (simp only [← ak];rfl)];have abT:Y.length≤10000000:=by rw [← HY.out];simp only [aaO,List.length_cons,List.length_nil];omega
 refine (ptL H M LL (by omega)).mono ?_;clear H M;rintro e w6⟨xs6,XB,rfl,H,M,-⟩;go_wp2_with fail;go_ret2
 have HF:=hid (show callG wild E x s.tl=acP (([],1,x) :: sgn [40] :: (r4.pc ++ [(abW,4,[41])])) (acC wild (r4.st)) ⟨21,x,0,r4.ix,0⟩ from by
  unfold callG
  try simp only
  rw [Hm4.out,fq.out,HG5.out] <;> rfl)
 rw [HB.out,HF.out]
 refine⟨?_,_,_,_,H.out,M.out⟩
 show _=Ending.returned (.tuple #[.string (aM (aN ((([],1,x) :: sgn [40] :: (r4.pc ++ [(abW,4,[41])]))))),.int .i64 (acC wild (r4.st)).id])
 have HI:aN (([],1,x) :: sgn [40] :: (r4.pc ++ [(abW,4,[41])]))=Y:=by
  simp only [aN,qZ,sgn];rw [Ji.out,← HY.out] <;> simp only [List.nil_append,List.append_nil,List.append_assoc,List.cons_append]
 rw [HI];rfl
theorem pl_array {wild:Bool}{d N:Nat}{E:abd→abb}(hN:N≤900000)(hd:d≤100)(X:Hid (aci wild E (N+50000) (.int .i64 (d:Int))))(ach:Hid (LsC wild E N (.int .i64 ((d:Int)+1))))(b:Nat)(hb:b % 7=5){g:Nat}{iv:Value}{w:World}{s:abd}{xs:List NV}{nv lv:Value}(H:Hid (abH g wild iv w s xs nv lv))(hn:s.ns.length≤N) :
  Calls Tryz.prog 175 #[.pointer (some ⟨g,0,none⟩),.int .i64 (b:Int),.int .i64 ((d:Int)+1)] w (GPost g wild iv w xs nv (compG wild E b s)):=by
 have M:=hid (abJ.refl (g:=g) (w:=w) (xs:=xs) (nv:=nv));have zd:IntKind.i64.wrap ((d:Int)+1 - 1)=(d:Int):=by rw [Int.add_sub_cancel];exact IntWalk.i64_in _ ⟨by omega,by omega⟩
 have hm7:Int.tmod (b:Int) 7=5:=by rw [Int.tmod_eq_emod_of_nonneg (by omega)];omega
 have HB:=hid (show compG wild E b s=arrayG wild E s.tl by unfold compG;simp only;rw [if_neg (by omega)];rw [if_neg (by omega)];rw [if_neg (by omega)];rw [if_neg (by omega)];rw [if_neg (by omega)];rw [if_pos hb]);go_in
 go_wp2_with fail;refine (nxH H M).mono ?_;clear H M;rintro e w1⟨lv1,rfl,q1,H,M,-⟩;go_wp2_with fail;refine (wdH (s.nx) _).mono ?_;rintro e w2⟨x,rfl,Hx,lx,rfl⟩;clear hb;obtain⟨m4,hm4⟩:∃ m,m=(s.tl).nx % 4:=⟨_,rfl⟩;have zm4:Int.tmod ((s.tl).nx:Int) 4=(m4:Int):=by rw [Int.tmod_eq_emod_of_nonneg (by omega),hm4];omega
 have Hm4:=hid hm4.symm;have bm4:m4≤3:=by omega
 clear hm4;have ym4:IntKind.i64.wrap (1+(m4:Int))=((1+m4:Nat):Int):=by rw [IntWalk.i64_in _ (by omega)];omega
 go_wp2_with fail;refine (nxH H M).mono ?_;clear H M;rintro e w3⟨lv3,rfl,q3,H,M,-⟩;go_wp2_with fail;refine (lsH H M X ach (m:=1+m4) (by omega) (by omega)).mono ?_;clear H M;rintro e w4⟨r4,T4,A4,c4,xs4,yH,lv4,rfl,fq,Ji,acn,acr,tl4,bn4,LL,H,M,-⟩;go_wp2_with fail;refine (gpH H M).mono ?_;clear H M;rintro e w5⟨abW,lv5,rfl,HG5,gl5,q5,H,M,R⟩
 replace LL:=kp R LL
 clear R;have cq0:¬ 9223372036854775807 < 1+abW.length:=by omega
 have cq1:¬ 9223372036854775807 < 1+abW.length+T4.length:=by omega
 have cq2:¬ 9223372036854775807 < 1+abW.length+T4.length+1:=by omega
 go_wp2_with fail;obtain⟨Y,HY⟩:∃ Y:Bs,Hid ([91] ++ abW ++ T4 ++ [93]=Y):=⟨_,hid rfl⟩;rw [show (⟨#[91]⟩:ByteArray) ++ aM (abW) ++ aM (T4) ++ (⟨#[93]⟩:ByteArray)=aM Y from by rw [← HY.out] <;> (simp only [← ak];rfl)];have abT:Y.length≤10000000:=by rw [← HY.out];simp only [aaO,List.length_cons,List.length_nil];omega
 refine (ptL H M LL (by omega)).mono ?_;clear H M;rintro e w6⟨xs6,XB,rfl,H,M,-⟩;go_wp2_with fail;go_ret2
 have HF:=hid (show arrayG wild E s.tl=acP (sgn [91] :: (Pcs.on abW r4.pc ++ [sgn [93]])) (acC wild (r4.st)) ⟨26,[],0,r4.ix,0⟩ from by
  unfold arrayG
  try simp only
  rw [Hm4.out,fq.out,HG5.out] <;> rfl)
 rw [HB.out,HF.out]
 refine⟨?_,_,_,_,H.out,M.out⟩
 show _=Ending.returned (.tuple #[.string (aM (aN ((sgn [91] :: (Pcs.on abW r4.pc ++ [sgn [93]]))))),.int .i64 (acC wild (r4.st)).id])
 have HI:aN (sgn [91] :: (Pcs.on abW r4.pc ++ [sgn [93]]))=Y:=by
  simp only [aN,qZ,sgn];rw [acn.out (by omega),← HY.out] <;> simp only [List.nil_append,List.append_nil,List.append_assoc,List.cons_append]
 rw [HI];rfl
theorem put_lenR (s:abd)(n:Nd):(s.put n).ns.length=s.ns.length+1:=aaO
theorem pl_rec (wild:Bool)(d N:Nat)(hN:N≤900000)(hE:abO wild d (N+50000))(hL:abN d≤100000)(hC:abM d≤10000)(b:Nat)(hb:b % 7=6)(g:Nat)(iv:Value)(w:World)(s:abd)(xs:List NV)(nv lv:Value)(h:abH g wild iv w s xs nv lv)(hn:s.ns.length≤N) :
  Calls Tryz.prog 175 #[.pointer (some ⟨g,0,none⟩),.int .i64 (b:Int),.int .i64 ((d:Int)+1)] w (GPost g wild iv w xs nv (compG wild (acG wild d) b s)):=by
 have H0:=hid h;have M0:=hid (abJ.refl (g:=g) (w:=w) (xs:=xs) (nv:=nv));clear h;have BE:=hid (expr_bd wild d);have HEC:=hid hE;have hdl:=d_le_Lb d;have zd:IntKind.i64.wrap ((d:Int)+1 - 1)=(d:Int):=by rw [Int.add_sub_cancel];exact IntWalk.i64_in _ ⟨by omega,by omega⟩
 clear hE;have hm7:Int.tmod (b:Int) 7=6:=by rw [Int.tmod_eq_emod_of_nonneg (by omega)];omega
 have HB:=hid (show compG wild (acG wild d) b s=recG wild (acG wild d) (acH s.nx) b s.tl by unfold compG;simp only;rw [if_neg (by omega),if_neg (by omega),if_neg (by omega),if_neg (by omega),if_neg (by omega),if_neg (by omega)]);obtain⟨q,hq⟩:∃ q,q=b % 3:=⟨_,rfl⟩;have zq:Int.tmod (b:Int) 3=(q:Int):=by rw [Int.tmod_eq_emod_of_nonneg (by omega),hq];omega
 obtain⟨m,hm⟩:∃ m,m=1+q:=⟨_,rfl⟩;have ab2:IntKind.i64.wrap (1+(q:Int))=(m:Int):=by rw [IntWalk.i64_in _ (by omega)];omega
 have hm3:m≤3:=by omega
 have HMB:=hid (show m=1+b % 3 by rw [hm,hq]);clear hm hq;obtain⟨j0,hj0,hy0,hy1,hy2⟩:=info_parts gN;have hg0:=H0.out.lt;have lx:=wordG_le s.nx;obtain⟨x,hx⟩:∃ x,x=acH s.nx:=⟨_,rfl⟩;rw [← hx] at lx HB
 have HX:=hid hx;clear hb;have hsn:s.tl.ns.length=s.ns.length:=rfl;go_in
 go_wp2_with fail;refine (acU g wild _ _ (s) _ _ _ H0.out).mono ?_;rintro e w1⟨rfl,lv1,h,m⟩;have H1:=hid h;have M1:=hid (M0.out.mvp m);clear h m H0 M0;go_wp2_with fail;refine (plWord_any s.nx _).mono ?_;rintro e w9⟨rfl,rfl⟩;rw [← hx];clear hx;have hms0:=M1.out.size;have Xp:=hid (abK.empty (w0:=w) H1.out rfl hms0);have HH:=hid (H1.out.alloc (.cells #[] 3));have MM:=hid (M1.out.dD (o:=.cells #[] 3));clear H1 M1;go_wp2_with fail;go_loopw [29,30,31] (fun sv l0 i wr=>∃ (k:Nat) (r:aa') (A:Option Addr) (c:Nat) (xs1:List NV) (gW lv1:Value),k≤m∧i=.int .i64 k∧sv=.string (aM (aN r.pc))∧l0=.slice A r.ix.length c∧Hid (r.ix.length=k)∧(aN r.pc).length≤k * 100020∧r.st.ns.length≤N+k * 10001∧Hid (putsG wild (acG wild d) (m - k) r=putsG wild (acG wild d) m ⟨[],[],s.tl⟩)∧Hid (abK w wr xs1 (.slice A r.ix.length c) r.ix)∧Hid (abH g wild iv wr r.st xs1 gW lv1)∧Hid (abJ g w xs nv wr xs1 gW)) (fun _ _ i _=>m - (intOf i).toNat)
 case atStart=>exact⟨0,⟨[],[],s.tl⟩,_,_,xs,nv,lv1,aaL _,rfl,rfl,rfl,hid rfl,by simp [aN],(by first|(simpa using hn)|(show s.tl.ns.length≤_;omega)),hid rfl,Xp,HH,MM⟩
 case round =>
  clear Xp HH MM;obtain⟨wo,rfl⟩:∃ wo:World,wo=wr:=⟨_,rfl⟩;obtain⟨k,r,A,c,xs1,gW,lv9,hk,rfl,rfl,rfl,hix,hlen,hnl,HR,LL,H0,M0⟩:=hrel;by_cases hlt:k < m
  ·obtain⟨mm,hmm⟩:∃ mm,m - k=mm+1:=⟨m - k - 1,by omega⟩;have hmm2:m - (k+1)=mm:=by omega
   rw [hmm] at HR
   have U1:=hid hmm2;clear hmm hmm2;obtain⟨X,hX⟩:∃ X,X=aN r.pc:=⟨_,rfl⟩;rw [← hX] at hlen ⊢
   have HX9:=hid hX;clear hX;by_cases hk0:k=0
   ·subst hk0;have hnil:r.ix=[]:=List.eq_nil_of_length_eq_zero hix.out;have HNX:=hid (show putsG wild (acG wild d) (mm+1) r=putsG wild (acG wild d) mm ⟨r.pc ++ (([],1,acH r.st.nx) :: sgn [58] :: (acG wild d r.st.tl).pc),r.ix ++ [(acG wild d r.st.tl).st.id],(acG wild d r.st.tl).st.put ⟨25,acH r.st.nx,0,[(acG wild d r.st.tl).ix],0⟩⟩ by rw [putsG];simp only [if_pos hnil]);clear hnil;go_wp2_with fail;refine (acU g wild _ _ (r.st) _ _ _ H0.out).mono ?_;rintro e w1⟨rfl,lv1,h,m⟩;have H1:=hid h;have M1:=hid (M0.out.mvp m)
    replace LL:=hid (LL.out.mv H0.out m)
    clear h m H0 M0;go_wp2_with fail;refine (plWord_any (r.st).nx _).mono ?_;rintro e w99⟨rfl,rfl⟩;have ly:=wordG_le (r.st).nx;obtain⟨y,hy⟩:∃ y,y=acH (r.st).nx:=⟨_,rfl⟩;rw [← hy] at ly HNX ⊢
    clear hy;have hs0:(r.st).tl.ns.length=r.st.ns.length:=rfl;go_wp2_with fail;refine (HEC.out g _ _ ((r.st).tl) _ _ _ H1.out (by first | omega|(simp only [acD,acR];omega))).mono ?_;rintro e w2⟨rfl,xs2,Qu,lv2,h,m⟩;have H2:=hid h;have M2:=hid (M1.out.trans m)
    replace LL:=hid (LL.out.mw H1.out m)
    clear h m H1 M1;have bt2:=BE.out.text ((r.st).tl);have bn2:=BE.out.nodes ((r.st).tl);obtain⟨a2,ha2⟩:∃ a,a=acG wild d ((r.st).tl):=⟨_,rfl⟩;rw [← ha2] at H2 bt2 bn2 ⊢
    obtain⟨T2,hT2⟩:∃ T,T=aN a2.pc:=⟨_,rfl⟩;have tl2:T2.length≤100000:=by rw [hT2];exact Nat.le_trans bt2 hL
    rw [← hT2];have HA2:=hid ha2;have HT2:=hid hT2;clear ha2 hT2 bt2
    (try simp only [acD,acR] at bn2)
    rw [← HA2.out] at HNX
    have cb0:¬ 9223372036854775807 < X.length+y.length:=by omega
    have cb1:¬ 9223372036854775807 < X.length+y.length+1:=by omega
    have cb2:¬ 9223372036854775807 < X.length+y.length+1+T2.length:=by omega
    have HAPLL:=hid (LL.out.apart (n:=1) (c:=1) (aaJ _))
    replace LL:=hid (LL.out.alloc (.cells (intCells [a2.ix]).toArray 3))
    have abR:=hid (Mx w2 [a2.ix]);have HK:=hid (H2.out.alloc (.cells (intCells [a2.ix]).toArray 3));have abS:=hid (M2.out.dD (o:=.cells (intCells [a2.ix]).toArray 3));have hms:=M2.out.size;clear H2 M2;go_wp2_with fail;obtain⟨Y,hY⟩:∃ Y:Bs,Y=X ++ y ++ [58] ++ T2:=⟨_,rfl⟩;rw [show aM (X ++ y) ++ (⟨#[58]⟩:ByteArray) ++ aM (T2)=aM Y from by rw [hY] <;> (simp only [← ak];rfl)];have abT:Y.length≤10000000:=by rw [hY];simp only [aaO,List.length_cons,List.length_nil];omega
    have HY:=hid hY;clear hY;refine (plPut_any g wild _ _ (a2.st) _ _ _ HK.out 25 y 0 _ [a2.ix] abR.out (by first | omega|(simp only [acD,acR];omega))).mono ?_;rintro e w3⟨rfl,FM,h,m⟩
    replace LL:=hid (LL.out.put HK.out h m HAPLL.out)
    have H3:=hid h;have M3:=hid (abS.out.putp (x:=(⟨25,y,0,[a2.ix],0⟩,(.slice (some ⟨w2.heap.size,0,none⟩) 1 1))) m (gw_at hms));clear h m;have LA:=hid (LL.out.alloc (.cells #[.int .i64 (abd.id (a2.st))] 3));have HA:=hid (H3.out.alloc (.cells #[.int .i64 (abd.id (a2.st))] 3));have MA:=hid (M3.out.dD (o:=(.cells #[.int .i64 (abd.id (a2.st))] 3)));have hms:=MA.out.size;have hrl:r.ix.length≤3:=by have:=hix.out;omega
    go_wp2_with (at_builtin;go_loud (refine wpList_append_lies _ rfl (.tmp 272) (.tmp 279) 24 rfl 0 3 j0 (.int .i64 0) 1 8 Tryz.underlying24 hj0 hy0 hy1 hy2 rfl (by decide) _ r.ix.length (intCells r.ix) rfl LA.out.row ⟨w3.heap.size,0,none⟩ 1 1 [.int .i64 (abd.id (a2.st))] rfl rfl (cell_one_new _ _ _) (by simp [Value.oneCell']) (by omega) (by simp only [maxLen];omega) (by omega) (aaL _) _ rfl ?_);intro gg14 cap14 Tx hown hgrow hat hlt;have L33:=hid (LA.out.grow HA.out hown hat hms);have H33:=hid (HA.out.grow LA.out hgrow (fun b hb=>aaK (aaW hg0 (LA.out.lo b hb))));have M33:=hid (MA.out.grow LA.out hgrow);clear hown hgrow hat hlt)
    clear LA HA MA hms LL H3 M3;have HTX:=hid (show Y=aN (r.pc ++ (([],1,y) :: sgn [58] :: a2.pc)) by rw [qZ,HY.out,← HX9.out];simp only [aN,sgn];rw [HT2.out];simp only [List.nil_append,List.append_nil,List.append_assoc,List.cons_append]);exact⟨⟨0+1,⟨r.pc ++ (([],1,y) :: sgn [58] :: a2.pc),r.ix ++ [abd.id (a2.st)],(a2.st).put ⟨25,y,0,[a2.ix],0⟩⟩,_,_,_,_,_,by omega,by go_num,congrArg Value.string (congrArg aM HTX.out),by rw [aaO];rfl,hid (by rw [aaO,hix.out];rfl),by rw [← HTX.out,HY.out];simp only [aaO,List.length_cons,List.length_nil];omega,by show (abd.put _ _).ns.length≤_;rw [put_lenR];omega,hid (by show putsG wild (acG wild d) (m - (0+1)) _=_;rw [U1.out,← HNX.out,HR.out]),by rw [aaO];exact L33,H33,M33⟩,by simp [intOf];omega⟩
   ·have hne:r.ix ≠ []:=fun h=>hk0 (by rw [← hix.out,h];rfl)
    have HNX:=hid (show putsG wild (acG wild d) (mm+1) r=putsG wild (acG wild d) mm ⟨r.pc ++ ((acM wild r.st,4,[44]) :: ([],1,acH (acC wild r.st).nx) :: sgn [58] :: (acG wild d (acC wild r.st).tl).pc),r.ix ++ [(acG wild d (acC wild r.st).tl).st.id],(acG wild d (acC wild r.st).tl).st.put ⟨25,acH (acC wild r.st).nx,0,[(acG wild d (acC wild r.st).tl).ix],0⟩⟩ by rw [putsG];simp only [if_neg hne]);have abQ:(0:Int) < (k:Int):=by omega
    clear hne hk0;go_wp2_with fail;refine (plGap_any g wild _ _ (r.st) _ _ _ H0.out).mono ?_;rintro e w1⟨rfl,lv1,h,m⟩;have H1:=hid h;have M1:=hid (M0.out.mvp m)
    replace LL:=hid (LL.out.mv H0.out m)
    clear h m H0 M0;have gl1:=gapG_len wild (r.st);obtain⟨G1,hG1⟩:∃ G,G=acM wild (r.st):=⟨_,rfl⟩;rw [← hG1] at gl1 ⊢
    have HG1:=hid hG1;clear hG1;rw [← HG1.out] at HNX
    have cg0:¬ 9223372036854775807 < G1.length+1:=by omega
    have cg1:¬ 9223372036854775807 < X.length+(G1.length+1):=by omega
    go_wp2_with fail;obtain⟨Z,hZ⟩:∃ Z:Bs,Z=X ++ (G1 ++ [44]):=⟨_,rfl⟩;rw [show (aM X ++ (aM G1 ++ (⟨#[44]⟩:ByteArray)))=aM Z from by rw [hZ,← ak,← ak];rfl];have hZl:Z.length≤X.length+9:=by rw [hZ];simp only [aaO,List.length_cons,List.length_nil];omega
    have HZ:=hid hZ;clear hZ cg0 cg1;refine (acU g wild _ _ (acC wild (r.st)) _ _ _ H1.out).mono ?_;rintro e w2⟨rfl,lv2,h,m⟩;have H2:=hid h;have M2:=hid (M1.out.mvp m)
    replace LL:=hid (LL.out.mv H1.out m)
    clear h m H1 M1;go_wp2_with fail;refine (plWord_any ((acC wild r.st)).nx _).mono ?_;rintro e w99⟨rfl,rfl⟩;have ly:=wordG_le ((acC wild r.st)).nx;obtain⟨y,hy⟩:∃ y,y=acH ((acC wild r.st)).nx:=⟨_,rfl⟩;rw [← hy] at ly HNX ⊢
    clear hy;have hs0:((acC wild r.st)).tl.ns.length=r.st.ns.length:=by show (acC wild r.st).ns.length=_;rw [acD]
    go_wp2_with fail;refine (HEC.out g _ _ ((acC wild (r.st)).tl) _ _ _ H2.out (by first | omega|(simp only [acD,acR];omega))).mono ?_;rintro e w3⟨rfl,Xj,FM,lv3,h,m⟩;have H3:=hid h;have M3:=hid (M2.out.trans m)
    replace LL:=hid (LL.out.mw H2.out m)
    clear h m H2 M2;have bt3:=BE.out.text ((acC wild (r.st)).tl);have bn3:=BE.out.nodes ((acC wild (r.st)).tl);obtain⟨a3,FK⟩:∃ a,a=acG wild d ((acC wild (r.st)).tl):=⟨_,rfl⟩;rw [← FK] at H3 bt3 bn3 ⊢
    obtain⟨T3,hT3⟩:∃ T,T=aN a3.pc:=⟨_,rfl⟩;have tl3:T3.length≤100000:=by rw [hT3];exact Nat.le_trans bt3 hL
    rw [← hT3];have gM:=hid FK;have HT3:=hid hT3;clear FK hT3 bt3
    (try simp only [acD,acR] at bn3)
    rw [← gM.out] at HNX
    have cb0:¬ 9223372036854775807 < Z.length+y.length:=by omega
    have cb1:¬ 9223372036854775807 < Z.length+y.length+1:=by omega
    have cb2:¬ 9223372036854775807 < Z.length+y.length+1+T3.length:=by omega
    have HAPLL:=hid (LL.out.apart (n:=1) (c:=1) (aaJ _))
    replace LL:=hid (LL.out.alloc (.cells (intCells [a3.ix]).toArray 3))
    have abR:=hid (Mx w3 [a3.ix]);have HK:=hid (H3.out.alloc (.cells (intCells [a3.ix]).toArray 3));have abS:=hid (M3.out.dD (o:=.cells (intCells [a3.ix]).toArray 3));have hms:=M3.out.size;clear H3 M3;go_wp2_with fail;obtain⟨Y,hY⟩:∃ Y:Bs,Y=Z ++ y ++ [58] ++ T3:=⟨_,rfl⟩;rw [show aM (Z ++ y) ++ (⟨#[58]⟩:ByteArray) ++ aM (T3)=aM Y from by rw [hY] <;> (simp only [← ak];rfl)];have abT:Y.length≤10000000:=by rw [hY];simp only [aaO,List.length_cons,List.length_nil];omega
    have HY:=hid hY;clear hY;refine (plPut_any g wild _ _ (a3.st) _ _ _ HK.out 25 y 0 _ [a3.ix] abR.out (by first | omega|(simp only [acD,acR];omega))).mono ?_;rintro e w4⟨rfl,yH,h,m⟩
    replace LL:=hid (LL.out.put HK.out h m HAPLL.out)
    have H4:=hid h;have M4:=hid (abS.out.putp (x:=(⟨25,y,0,[a3.ix],0⟩,(.slice (some ⟨w3.heap.size,0,none⟩) 1 1))) m (gw_at hms));clear h m;have LA:=hid (LL.out.alloc (.cells #[.int .i64 (abd.id (a3.st))] 3));have HA:=hid (H4.out.alloc (.cells #[.int .i64 (abd.id (a3.st))] 3));have MA:=hid (M4.out.dD (o:=(.cells #[.int .i64 (abd.id (a3.st))] 3)));have hms:=MA.out.size;have hrl:r.ix.length≤3:=by have:=hix.out;omega
    go_wp2_with (at_builtin;go_loud (refine wpList_append_lies _ rfl (.tmp 272) (.tmp 279) 24 rfl 0 3 j0 (.int .i64 0) 1 8 Tryz.underlying24 hj0 hy0 hy1 hy2 rfl (by decide) _ r.ix.length (intCells r.ix) rfl LA.out.row ⟨w4.heap.size,0,none⟩ 1 1 [.int .i64 (abd.id (a3.st))] rfl rfl (cell_one_new _ _ _) (by simp [Value.oneCell']) (by omega) (by simp only [maxLen];omega) (by omega) (aaL _) _ rfl ?_);intro gg14 cap14 Tx hown hgrow hat hlt;have L33:=hid (LA.out.grow HA.out hown hat hms);have H33:=hid (HA.out.grow LA.out hgrow (fun b hb=>aaK (aaW hg0 (LA.out.lo b hb))));have M33:=hid (MA.out.grow LA.out hgrow);clear hown hgrow hat hlt)
    clear LA HA MA hms LL H4 M4;have HTX:=hid (show Y=aN (r.pc ++ ((G1,4,[44]) :: ([],1,y) :: sgn [58] :: a3.pc)) by rw [qZ,HY.out,HZ.out,← HX9.out];simp only [aN,sgn];rw [HT3.out];simp only [List.nil_append,List.append_nil,List.append_assoc,List.cons_append]);exact⟨⟨k+1,⟨r.pc ++ ((G1,4,[44]) :: ([],1,y) :: sgn [58] :: a3.pc),r.ix ++ [abd.id (a3.st)],(a3.st).put ⟨25,y,0,[a3.ix],0⟩⟩,_,_,_,_,_,by omega,by go_num,congrArg Value.string (congrArg aM HTX.out),by rw [aaO];rfl,hid (by rw [aaO,hix.out];rfl),by rw [← HTX.out,HY.out];simp only [aaO,List.length_cons,List.length_nil];omega,by show (abd.put _ _).ns.length≤_;rw [put_lenR];omega,hid (by show putsG wild (acG wild d) (m - (k+1)) _=_;rw [U1.out,← HNX.out,HR.out]),by rw [aaO];exact L33,H33,M33⟩,by simp [intOf];omega⟩
  ·obtain rfl:k=m:=by omega
   have HRR:=hid (show putsG wild (acG wild d) k ⟨[],[],s.tl⟩=r by rw [← HR.out,Nat.sub_self];rfl);clear HR;have tl9:(aN r.pc).length≤400000:=by omega
   obtain⟨S,hS⟩:∃ S,S=aN r.pc:=⟨_,rfl⟩;rw [← hS] at tl9 ⊢
   have HS:=hid hS;clear hS hlen;have cp0_0:¬ 9223372036854775807 < x.length+1:=by omega
   have cp0_1:¬ 9223372036854775807 < x.length+1+S.length:=by omega
   go_wp2_with fail;refine (plGap_any g wild _ _ (r.st) _ _ _ H0.out).mono ?_;rintro e w1⟨rfl,lv1,h,m⟩;have H1:=hid h;have M1:=hid (M0.out.mvp m)
   replace LL:=hid (LL.out.mv H0.out m)
   clear h m H0 M0;have gl1:=gapG_len wild (r.st);obtain⟨G1,hG1⟩:∃ G,G=acM wild (r.st):=⟨_,rfl⟩;rw [← hG1] at gl1 ⊢
   have HG1:=hid hG1;clear hG1;clear cp0_0 cp0_1;have cq0:¬ 9223372036854775807 < x.length+1:=by omega
   have cq1:¬ 9223372036854775807 < x.length+1+S.length:=by omega
   have cq2:¬ 9223372036854775807 < x.length+1+S.length+G1.length:=by omega
   have cq3:¬ 9223372036854775807 < x.length+1+S.length+G1.length+1:=by omega
   go_wp2_with fail;obtain⟨Y,hY⟩:∃ Y:Bs,Y=x ++ [123] ++ S ++ G1 ++ [125]:=⟨_,rfl⟩;rw [show aM (x) ++ (⟨#[123]⟩:ByteArray) ++ aM (S) ++ aM (G1) ++ (⟨#[125]⟩:ByteArray)=aM Y from by rw [hY] <;> (simp only [← ak];rfl)];have abT:Y.length≤10000000:=by rw [hY];simp only [aaO,List.length_cons,List.length_nil];omega
   have HY:=hid hY;clear hY;refine (plPut_any g wild _ _ (acC wild (r.st)) _ _ _ H1.out 24 x 0 _ r.ix LL.out.row (by first | omega|(simp only [acD,acR];omega))).mono ?_;rintro e w2⟨rfl,Qu,h,m⟩;have H2:=hid h;have M2:=hid (M1.out.putp (x:=(⟨24,x,0,r.ix,0⟩,(.slice A r.ix.length c))) m (fun b hb=>LL.out.lo b hb));clear h m;go_wp2_with fail;go_ret2
   rw [HB.out]
   have HF:=hid (show recG wild (acG wild d) x b s.tl=acP (([],1,x) :: sgn [123] :: (r.pc ++ [(G1,4,[125])])) (acC wild (r.st)) ⟨24,x,0,r.ix,0⟩ from by
    unfold recG;simp only
    rw [← HMB.out,HRR.out,← HG1.out])
   rw [HF.out]
   refine⟨?_,_,_,_,H2.out,M2.out⟩
   show _=Ending.returned (.tuple #[.string (aM (aN (([],1,x) :: sgn [123] :: (r.pc ++ [(G1,4,[125])])))),.int .i64 (acC wild (r.st)).id])
   have HI:=(show aN (([],1,x) :: sgn [123] :: (r.pc ++ [(G1,4,[125])]))=Y from by
    simp only [aN,qZ,sgn];rw [HY.out,← HS.out];simp only [List.nil_append,List.append_nil,List.append_assoc,List.cons_append])
   rw [HI];rfl
section
variable (wild:Bool) (d N:Nat) (hN:N≤900000) (hE:abO wild d (N+50000)) (hL:abN d≤100000) (hC:abM d≤10000)
include hN hE hL hC
theorem xc_is:aci wild (acG wild d) (N+50000) (.int .i64 (d:Int)):=⟨hE,bd_more (expr_bd wild d) hL hC,fun s=>expr_good wild d s⟩
theorem lsc_is:LsC wild (acG wild d) N (.int .i64 ((d:Int)+1)):=fun m hm g iv w s xs nv lv h hn=>plList_any wild d N hN hE hL hC m hm g iv w s xs nv lv h hn
theorem pl_op (hd:d≤100)(b:Nat)(h150:b < 150)(g:Nat)(iv:Value)(w:World)(s:abd)(xs:List NV)(nv lv:Value)(h:abH g wild iv w s xs nv lv)(hn:s.ns.length≤N) :
  Calls Tryz.prog 174 #[.pointer (some ⟨g,0,none⟩),.int .i64 (b:Int),.int .i64 ((d:Int)+1)] w (GPost g wild iv w xs nv (opG wild (acG wild d) b s)):=by
 have X:=hid (xc_is wild d N hN hE hL hC);by_cases hb:b < 75
 ·by_cases hp:b % 2=0
  ·exact pl_not hN hd X b hb hp (hid h) hn
  ·exact pl_neg hN hd X b hb hp (hid h) hn
 ·exact pl_bin hN hd X b hb h150 (hid h) hn
theorem pl_comp (hd:d≤100)(b:Nat)(g:Nat)(iv:Value)(w:World)(s:abd)(xs:List NV)(nv lv:Value)(h:abH g wild iv w s xs nv lv)(hn:s.ns.length≤N) :
  Calls Tryz.prog 175 #[.pointer (some ⟨g,0,none⟩),.int .i64 (b:Int),.int .i64 ((d:Int)+1)] w (GPost g wild iv w xs nv (compG wild (acG wild d) b s)):=by
 have X:=hid (xc_is wild d N hN hE hL hC);have ach:=hid (lsc_is wild d N hN hE hL hC);have h7:b % 7 < 7:=Nat.mod_lt _ (by decide);obtain hb | hb | hb | hb | hb | hb | hb:b % 7=0∨b % 7=1∨b % 7=2∨b % 7=3∨b % 7=4∨b % 7=5∨b % 7=6:=by omega
 ·exact pl_if hN hd X b hb (hid h) hn
 ·exact pl_let hN hd X b hb (hid h) hn
 ·exact pl_call hN hd X ach b hb (hid h) hn
 ·exact pl_field hN hd X b hb (hid h) hn
 ·exact pl_index hN hd X b hb (hid h) hn
 ·exact pl_array hN hd X ach b hb (hid h) hn
 ·exact pl_rec wild d N hN hE hL hC b hb g iv w s xs nv lv h hn
theorem expr_next (hd:d≤100):abO wild (d+1) N:=by
 intro g iv w s xs nv lv h hn;have hdl:=d_le_Lb d;by_cases h60:s.nx < 60
 ·rw [show acG wild (d+1) s=leafG s.nx s.tl by rw [acG,if_pos h60]];exact expr_leaf ((d+1:Nat):Int) (by omega) g wild iv w s xs nv lv h (by omega) s.nx h60 (.inr ⟨by omega,rfl⟩)
 have hns:s.tl.ns.length≤N:=hn;have Fx:=hid (pl_op wild d N hN hE hL hC hd);have HCO:=hid (pl_comp wild d N hN hE hL hC hd);clear hE;have H:=hid h;clear h;obtain⟨b,hb⟩:∃ b,b=s.nx:=⟨_,rfl⟩;have HX:=hid (show acG wild (d+1) s=if b < 150 then opG wild (acG wild d) b s.tl else compG wild (acG wild d) b s.tl by rw [acG,if_neg h60,hb]);rw [HX.out];rw [← hb] at h60
 have HN:=hid hb;clear hb;have z20:¬ (b:Int) < 20:=by omega
 have z30:¬ (b:Int) < 30:=by omega
 have z60:¬ (b:Int) < 60:=by omega
 have zd:¬ ((d:Int)+1≤0):=by omega
 by_cases h150:b < 150
 ·rw [if_pos h150];have z150:(b:Int) < 150:=by omega
  rw [show ((d+1:Nat):Int)=(d:Int)+1 by omega];go_enter Tryz.func117,Tryz.ntmps117
  go_wp2_with fail;refine (acU g wild iv _ s xs nv lv H.out).mono ?_;rintro e w1⟨rfl,lv1,h1,m1⟩;have H1:=hid h1;have M1:=hid (abJ.of_mv xs m1);clear h1 m1 H;rw [← HN.out];go_wp2_with fail;refine (Fx.out b h150 g iv _ s.tl xs nv lv1 H1.out hns).mono ?_;rintro e w2⟨rfl,xs2,Qu,lv2,h2,m2⟩;have H2:=hid h2;have M2:=hid (M1.out.trans m2);clear h2 m2;go_wp2_with fail;go_ret2
  exact⟨rfl,xs2,Qu,lv2,H2.out,M2.out⟩
 ·rw [if_neg h150];have z150:¬ (b:Int) < 150:=by omega
  rw [show ((d+1:Nat):Int)=(d:Int)+1 by omega];go_enter Tryz.func117,Tryz.ntmps117
  go_wp2_with fail;refine (acU g wild iv _ s xs nv lv H.out).mono ?_;rintro e w1⟨rfl,lv1,h1,m1⟩;have H1:=hid h1;have M1:=hid (abJ.of_mv xs m1);clear h1 m1 H;rw [← HN.out];go_wp2_with fail;refine (HCO.out b g iv _ s.tl xs nv lv1 H1.out hns).mono ?_;rintro e w2⟨rfl,xs2,Qu,lv2,h2,m2⟩;have H2:=hid h2;have M2:=hid (M1.out.trans m2);clear h2 m2;go_wp2_with fail;go_ret2
  exact⟨rfl,xs2,Qu,lv2,H2.out,M2.out⟩
end
theorem expr_zero (wild:Bool)(N:Nat)(hN:N≤950000):abO wild 0 N:=by
 intro g iv w s xs nv lv h hn;exact expr_leaf 0 (by omega) g wild iv w s xs nv lv h (by omega) (s.nx % 60) (Nat.mod_lt _ (by decide)) (.inl ⟨rfl,rfl⟩)
theorem expr_three (wild:Bool):abO wild 3 800000 :=
 expr_next wild 2 _ (by omega) (expr_next wild 1 _ (by omega) (expr_next wild 0 _ (by omega) (expr_zero wild _ (by omega)) (by decide) (by decide) (by decide)) (by decide) (by decide) (by decide)) (by decide) (by decide) (by decide)
theorem expr_four (wild:Bool):abO wild 4 750000:=expr_next wild 3 _ (by omega) (expr_three wild) (by decide) (by decide) (by decide)
end Go.Proofs.YthepmkjggfijoaaGreatDoor
