/-
  A part of the proof.
-/
import Derived.Test.YthepmkjggfijoaaGreatDoorSA
import Derived.Test.YthepmkjggfijoaaGreatDoorJ06
import Derived.Test.YthepmkjggfijoaaGreatDoorJ07
set_option linter.all false
set_option maxRecDepth 100000
set_option maxHeartbeats 4000000
namespace Go.Proofs.YthepmkjggfijoaaGreatDoor
open Go.RowKit Mist
attribute [local go_sem] aj aH aS aB ak
theorem pl_if {wild:Bool}{d N:Nat}{E:abd→abb}(hN:N≤900000)(hd:d≤100)(X:Hid (aci wild E (N+50000) (.int .i64 (d:Int))))(b:Nat)(hb:b % 7=0){g:Nat}{iv:Value}{w:World}{s:abd}{xs:List NV}{nv lv:Value}(H:Hid (abH g wild iv w s xs nv lv))(hn:s.ns.length≤N) :
  Calls Tryz.prog 175 #[.pointer (some ⟨g,0,none⟩),.int .i64 (b:Int),.int .i64 ((d:Int)+1)] w (GPost g wild iv w xs nv (compG wild E b s)):=by
 have M:=O (abJ.refl (g:=g) (w:=w) (xs:=xs) (nv:=nv));have zd:IntKind.i64.wrap ((d:Int)+1 - 1)=(d:Int):=by rw [Int.add_sub_cancel];exact IntWalk.i64_in _ ⟨by omega,by omega⟩
 have hm7:Int.tmod (b:Int) 7=0:=by rw [Int.tmod_eq_emod_of_nonneg (by omega)];omega
 have HB:=O (show compG wild E b s=ifG wild E s.tl by unfold compG;simp only;rw [if_pos hb]);go_in
 go_wp2_with fail;refine (nxH H M).mono ?_;clear H M;rintro e w1⟨lv1,rfl,q1,H,M,-⟩;go_wp2_with fail;refine (wdH (s.nx) _).mono ?_;rintro e w2⟨x,rfl,Hx,lx,rfl⟩;clear hb;go_wp2_with fail;refine (exH H M X (by omega)).mono ?_;clear H M;rintro e w3⟨U,h,Xj,FM,lv3,rfl,gM,HT3,O3,tl3,bn3,H,M,-⟩;go_wp2_with fail;refine (exH H M X (by omega)).mono ?_;clear H M;rintro e w4⟨V,k,xs4,yH,lv4,rfl,fq,Ji,acn,tl4,bn4,H,M,-⟩;go_wp2_with fail;refine (exH H M X (by omega)).mono ?_;clear H M;rintro e w5⟨l,T5,xs5,Fu,lv5,rfl,jX,zO,aco,tl5,bn5,H,M,-⟩;go_wp2_with fail;refine (gpH H M).mono ?_;clear H M;rintro e w6⟨a,lv6,rfl,W,gl6,q6,H,M,-⟩;have m:¬ 9223372036854775807 < 2+a.length:=by omega
 have n:¬ 9223372036854775807 < 2+a.length+h.length:=by omega
 go_wp2_with fail;refine (gpH H M).mono ?_;clear H M;rintro e w7⟨c,lv7,rfl,Z,gl7,q7,H,M,-⟩;clear m n;have q:¬ 9223372036854775807 < 2+a.length:=by omega
 have r:¬ 9223372036854775807 < 2+a.length+h.length:=by omega
 have u:¬ 9223372036854775807 < 2+a.length+h.length+c.length:=by omega
 have v:¬ 9223372036854775807 < 2+a.length+h.length+c.length+4:=by omega
 go_wp2_with fail;refine (gpH H M).mono ?_;clear H M;rintro e w8⟨f,lv8,rfl,HG8,gl8,q8,H,M,-⟩;clear q r u v;have y:¬ 9223372036854775807 < 2+a.length:=by omega
 have A:¬ 9223372036854775807 < 2+a.length+h.length:=by omega
 have B:¬ 9223372036854775807 < 2+a.length+h.length+c.length:=by omega
 have C:¬ 9223372036854775807 < 2+a.length+h.length+c.length+4:=by omega
 have D:¬ 9223372036854775807 < 2+a.length+h.length+c.length+4+f.length:=by omega
 have F:¬ 9223372036854775807 < 2+a.length+h.length+c.length+4+f.length+k.length:=by omega
 go_wp2_with fail;refine (gpH H M).mono ?_;clear H M;rintro e w9⟨i,lv9,rfl,HG9,gl9,acs,H,M,-⟩;clear y A B C D F;have G:¬ 9223372036854775807 < 2+a.length:=by omega
 have I:¬ 9223372036854775807 < 2+a.length+h.length:=by omega
 have J:¬ 9223372036854775807 < 2+a.length+h.length+c.length:=by omega
 have K:¬ 9223372036854775807 < 2+a.length+h.length+c.length+4:=by omega
 have L:¬ 9223372036854775807 < 2+a.length+h.length+c.length+4+f.length:=by omega
 have P:¬ 9223372036854775807 < 2+a.length+h.length+c.length+4+f.length+k.length:=by omega
 have Q:¬ 9223372036854775807 < 2+a.length+h.length+c.length+4+f.length+k.length+i.length:=by omega
 have R:¬ 9223372036854775807 < 2+a.length+h.length+c.length+4+f.length+k.length+i.length+4:=by omega
 go_wp2_with fail;refine (gpH H M).mono ?_;clear H M;rintro e Qv⟨j,lv10,rfl,S,gl10,q10,H,M,-⟩;clear G I J K L P Q R;have cq0:¬ 9223372036854775807 < 2+a.length:=by omega
 have cq1:¬ 9223372036854775807 < 2+a.length+h.length:=by omega
 have cq2:¬ 9223372036854775807 < 2+a.length+h.length+c.length:=by omega
 have cq3:¬ 9223372036854775807 < 2+a.length+h.length+c.length+4:=by omega
 have cq4:¬ 9223372036854775807 < 2+a.length+h.length+c.length+4+f.length:=by omega
 have cq5:¬ 9223372036854775807 < 2+a.length+h.length+c.length+4+f.length+k.length:=by omega
 have cq6:¬ 9223372036854775807 < 2+a.length+h.length+c.length+4+f.length+k.length+i.length:=by omega
 have cq7:¬ 9223372036854775807 < 2+a.length+h.length+c.length+4+f.length+k.length+i.length+4:=by omega
 have cq8:¬ 9223372036854775807 < 2+a.length+h.length+c.length+4+f.length+k.length+i.length+4+j.length:=by omega
 have cq9:¬ 9223372036854775807 < 2+a.length+h.length+c.length+4+f.length+k.length+i.length+4+j.length+T5.length:=by omega
 go_wp2_with fail;obtain⟨Y,HY⟩:∃ Y:Bs,Hid ([105,102] ++ a ++ h ++ c ++ [116,104,101,110] ++ f ++ k ++ i ++ [101,108,115,101] ++ j ++ T5=Y):=⟨_,O rfl⟩;rw [show (⟨#[105,102]⟩:ByteArray) ++ aM (a) ++ aM (h) ++ aM (c) ++ (⟨#[116,104,101,110]⟩:ByteArray) ++ aM (f) ++ aM (k) ++ aM (i) ++ (⟨#[101,108,115,101]⟩:ByteArray) ++ aM (j) ++ aM (T5)=aM Y from by rw [← HY.o] <;> (simp only [← ak];rfl)];have abT:Y.length≤10000000:=by rw [← HY.o];simp only [aaO,List.length_cons,List.length_nil];omega
 refine (smH H M (t:=Y) (by omega)).mono ?_;clear H M;rintro e Et⟨S11,lv11,rfl,T,q11,H,M⟩;go_wp2_with fail;refine (ptH H M [U.ix,V.ix,l.ix] (by simp) (by omega)).mono ?_;clear H M;rintro e wQ⟨Dr,uL,rfl,H,M,-⟩;go_wp2_with fail;go_ret2
 have HF:=O (show ifG wild E s.tl=acV (someP wild (([],3,[105,102]) :: (Pcs.on a U.pc ++ (c,3,[116,104,101,110]) :: (Pcs.on f V.pc ++ (i,3,[101,108,115,101]) :: Pcs.on j l.pc))) (acJ wild (acJ wild (acJ wild (acJ wild (acJ wild (l.st))))))) (someS wild (acJ wild (acJ wild (acJ wild (acJ wild (acJ wild (l.st))))))) ⟨19,[],0,[U.ix,V.ix,l.ix],0⟩ from by
  unfold ifG
  try simp only
  rw [gM.o,fq.o,jX.o,W.o,Z.o,HG8.o,HG9.o,S.o] <;> rfl)
 rw [HB.o,HF.o]
 refine⟨?_,_,_,_,H.o,M.o⟩
 show _=Ending.returned (.tuple #[.string (aM (aN (someP wild (([],3,[105,102]) :: (Pcs.on a U.pc ++ (c,3,[116,104,101,110]) :: (Pcs.on f V.pc ++ (i,3,[101,108,115,101]) :: Pcs.on j l.pc))) (acJ wild (acJ wild (acJ wild (acJ wild (acJ wild (l.st))))))))),.int .i64 (someS wild (acJ wild (acJ wild (acJ wild (acJ wild (acJ wild (l.st))))))).id])
 have HI:aN (([],3,[105,102]) :: (Pcs.on a U.pc ++ (c,3,[116,104,101,110]) :: (Pcs.on f V.pc ++ (i,3,[101,108,115,101]) :: Pcs.on j l.pc)))=Y:=by
  simp only [aN,qZ,sgn];rw [O3.o,acn.o,aco.o,← HY.o] <;> simp only [List.nil_append,List.append_nil,List.append_assoc,List.cons_append]
 rw [someT_text,HI,T.o];rfl
theorem pl_let {wild:Bool}{d N:Nat}{E:abd→abb}(hN:N≤900000)(hd:d≤100)(X:Hid (aci wild E (N+50000) (.int .i64 (d:Int))))(b:Nat)(V:b % 7=1){g:Nat}{iv:Value}{w:World}{s:abd}{xs:List NV}{nv lv:Value}(H:Hid (abH g wild iv w s xs nv lv))(hn:s.ns.length≤N) :
  Calls Tryz.prog 175 #[.pointer (some ⟨g,0,none⟩),.int .i64 (b:Int),.int .i64 ((d:Int)+1)] w (GPost g wild iv w xs nv (compG wild E b s)):=by
 have M:=O (abJ.refl (g:=g) (w:=w) (xs:=xs) (nv:=nv));have zd:IntKind.i64.wrap ((d:Int)+1 - 1)=(d:Int):=by rw [Int.add_sub_cancel];exact IntWalk.i64_in _ ⟨by omega,by omega⟩
 have hm7:Int.tmod (b:Int) 7=1:=by rw [Int.tmod_eq_emod_of_nonneg (by omega)];omega
 have U:=O (show compG wild E b s=letG wild E (acM s.nx) s.tl by unfold compG;simp only;rw [if_neg (by omega)];rw [if_pos V]);go_in
 go_wp2_with fail;refine (nxH H M).mono ?_;clear H M;rintro e w1⟨lv1,rfl,q1,H,M,-⟩;go_wp2_with fail;refine (wdH (s.nx) _).mono ?_;rintro e w2⟨x,rfl,Hx,lx,rfl⟩;rw [Hx.o] at U
 clear V;go_wp2_with fail;refine (exH H M X (by omega)).mono ?_;clear H M;rintro e w3⟨G,i,Xj,FM,lv3,rfl,gM,Q,O3,tl3,bn3,H,M,-⟩;go_wp2_with fail;refine (exH H M X (by omega)).mono ?_;clear H M;rintro e w4⟨j,S,xs4,yH,lv4,rfl,fq,Ji,T,tl4,bn4,H,M,-⟩;go_wp2_with fail;refine (gpH H M).mono ?_;clear H M;rintro e w5⟨a,lv5,rfl,I,gl5,q5,H,M,-⟩;have k:¬ 9223372036854775807 < 3+a.length:=by omega
 have l:¬ 9223372036854775807 < 3+a.length+x.length:=by omega
 go_wp2_with fail;refine (gpH H M).mono ?_;clear H M;rintro e w6⟨c,lv6,rfl,J,gl6,q6,H,M,-⟩;clear k l;have m:¬ 9223372036854775807 < 3+a.length:=by omega
 have n:¬ 9223372036854775807 < 3+a.length+x.length:=by omega
 have q:¬ 9223372036854775807 < 3+a.length+x.length+c.length:=by omega
 have r:¬ 9223372036854775807 < 3+a.length+x.length+c.length+1:=by omega
 have u:¬ 9223372036854775807 < 3+a.length+x.length+c.length+1+i.length:=by omega
 go_wp2_with fail;refine (gpH H M).mono ?_;clear H M;rintro e w7⟨f,lv7,rfl,K,gl7,q7,H,M,-⟩;clear m n q r u;have v:¬ 9223372036854775807 < 3+a.length:=by omega
 have y:¬ 9223372036854775807 < 3+a.length+x.length:=by omega
 have A:¬ 9223372036854775807 < 3+a.length+x.length+c.length:=by omega
 have B:¬ 9223372036854775807 < 3+a.length+x.length+c.length+1:=by omega
 have C:¬ 9223372036854775807 < 3+a.length+x.length+c.length+1+i.length:=by omega
 have D:¬ 9223372036854775807 < 3+a.length+x.length+c.length+1+i.length+f.length:=by omega
 have F:¬ 9223372036854775807 < 3+a.length+x.length+c.length+1+i.length+f.length+2:=by omega
 go_wp2_with fail;refine (gpH H M).mono ?_;clear H M;rintro e w8⟨h,lv8,rfl,L,gl8,q8,H,M,-⟩;clear v y A B C D F;have cq0:¬ 9223372036854775807 < 3+a.length:=by omega
 have cq1:¬ 9223372036854775807 < 3+a.length+x.length:=by omega
 have cq2:¬ 9223372036854775807 < 3+a.length+x.length+c.length:=by omega
 have cq3:¬ 9223372036854775807 < 3+a.length+x.length+c.length+1:=by omega
 have cq4:¬ 9223372036854775807 < 3+a.length+x.length+c.length+1+i.length:=by omega
 have cq5:¬ 9223372036854775807 < 3+a.length+x.length+c.length+1+i.length+f.length:=by omega
 have cq6:¬ 9223372036854775807 < 3+a.length+x.length+c.length+1+i.length+f.length+2:=by omega
 have cq7:¬ 9223372036854775807 < 3+a.length+x.length+c.length+1+i.length+f.length+2+h.length:=by omega
 have cq8:¬ 9223372036854775807 < 3+a.length+x.length+c.length+1+i.length+f.length+2+h.length+S.length:=by omega
 go_wp2_with fail;obtain⟨Y,R⟩:∃ Y:Bs,Hid ([108,101,116] ++ a ++ x ++ c ++ [61] ++ i ++ f ++ [105,110] ++ h ++ S=Y):=⟨_,O rfl⟩;rw [show (⟨#[108,101,116]⟩:ByteArray) ++ aM (a) ++ aM (x) ++ aM (c) ++ (⟨#[61]⟩:ByteArray) ++ aM (i) ++ aM (f) ++ (⟨#[105,110]⟩:ByteArray) ++ aM (h) ++ aM (S)=aM Y from by rw [← R.o] <;> (simp only [← ak];rfl)];have abT:Y.length≤10000000:=by rw [← R.o];simp only [aaO,List.length_cons,List.length_nil];omega
 refine (smH H M (t:=Y) (by omega)).mono ?_;clear H M;rintro e w9⟨acp,lv9,rfl,P,acs,H,M⟩;go_wp2_with fail;refine (ptH H M [G.ix,j.ix] (by simp) (by omega)).mono ?_;clear H M;rintro e Qv⟨Z,W,rfl,H,M,-⟩;go_wp2_with fail;go_ret2
 have HF:=O (show letG wild E x s.tl=acV (someP wild (([],3,[108,101,116]) :: (a,1,x) :: (c,4,[61]) :: (G.pc ++ (f,3,[105,110]) :: Pcs.on h j.pc)) (acJ wild (acJ wild (acJ wild (acJ wild (j.st)))))) (someS wild (acJ wild (acJ wild (acJ wild (acJ wild (j.st)))))) ⟨20,x,0,[G.ix,j.ix],0⟩ from by
  unfold letG
  try simp only
  rw [gM.o,fq.o,I.o,J.o,K.o,L.o] <;> rfl)
 rw [U.o,HF.o]
 refine⟨?_,_,_,_,H.o,M.o⟩
 show _=Ending.returned (.tuple #[.string (aM (aN (someP wild (([],3,[108,101,116]) :: (a,1,x) :: (c,4,[61]) :: (G.pc ++ (f,3,[105,110]) :: Pcs.on h j.pc)) (acJ wild (acJ wild (acJ wild (acJ wild (j.st)))))))),.int .i64 (someS wild (acJ wild (acJ wild (acJ wild (acJ wild (j.st)))))).id])
 have HI:aN (([],3,[108,101,116]) :: (a,1,x) :: (c,4,[61]) :: (G.pc ++ (f,3,[105,110]) :: Pcs.on h j.pc))=Y:=by
  simp only [aN,qZ,sgn];rw [T.o,Q.o,← R.o] <;> simp only [List.nil_append,List.append_nil,List.append_assoc,List.cons_append]
 rw [someT_text,HI,P.o];rfl
theorem pl_field {wild:Bool}{d N:Nat}{E:abd→abb}(hN:N≤900000)(hd:d≤100)(X:Hid (aci wild E (N+50000) (.int .i64 (d:Int))))(b:Nat)(m:b % 7=3){g:Nat}{iv:Value}{w:World}{s:abd}{xs:List NV}{nv lv:Value}(H:Hid (abH g wild iv w s xs nv lv))(V:s.ns.length≤N) :
  Calls Tryz.prog 175 #[.pointer (some ⟨g,0,none⟩),.int .i64 (b:Int),.int .i64 ((d:Int)+1)] w (GPost g wild iv w xs nv (compG wild E b s)):=by
 have M:=O (abJ.refl (g:=g) (w:=w) (xs:=xs) (nv:=nv));have zd:IntKind.i64.wrap ((d:Int)+1 - 1)=(d:Int):=by rw [Int.add_sub_cancel];exact IntWalk.i64_in _ ⟨by omega,by omega⟩
 have I:Int.tmod (b:Int) 7=3:=by rw [Int.tmod_eq_emod_of_nonneg (by omega)];omega
 have l:=O (show compG wild E b s=fieldG wild E (acM s.nx) s.tl by unfold compG;simp only;rw [if_neg (by omega)];rw [if_neg (by omega)];rw [if_neg (by omega)];rw [if_pos m]);go_in
 go_wp2_with fail;refine (nxH H M).mono ?_;clear H M;rintro e w1⟨J,rfl,Z,H,M,-⟩;go_wp2_with fail;refine (wdH (s.nx) _).mono ?_;rintro e w2⟨x,rfl,r,W,rfl⟩;rw [r.o] at l
 clear m;go_wp2_with fail;refine (exH H M X (by omega)).mono ?_;clear H M;rintro e w3⟨f,a,U,R,K,rfl,F,j,T,P,v,H,M,-⟩;have h:¬ 9223372036854775807 < 1+a.length:=by omega
 have i:¬ 9223372036854775807 < 1+a.length+1:=by omega
 go_wp2_with fail;refine (gpH H M).mono ?_;clear H M;rintro e w4⟨c,L,rfl,t,G,q4,H,M,-⟩;clear h i;have y:¬ 9223372036854775807 < 1+a.length:=by omega
 have A:¬ 9223372036854775807 < 1+a.length+1:=by omega
 have B:¬ 9223372036854775807 < 1+a.length+1+c.length:=by omega
 have C:¬ 9223372036854775807 < 1+a.length+1+c.length+1:=by omega
 have D:¬ 9223372036854775807 < 1+a.length+1+c.length+1+x.length:=by omega
 go_wp2_with fail;obtain⟨Y,k⟩:∃ Y:Bs,Hid ([40] ++ a ++ [41] ++ c ++ [46] ++ x=Y):=⟨_,O rfl⟩;rw [show (⟨#[40]⟩:ByteArray) ++ aM (a) ++ (⟨#[41]⟩:ByteArray) ++ aM (c) ++ (⟨#[46]⟩:ByteArray) ++ aM (x)=aM Y from by rw [← k.o] <;> (simp only [← ak];rfl)];have u:Y.length≤10000000:=by rw [← k.o];simp only [aaO,List.length_cons,List.length_nil];omega
 refine (ptH H M [f.ix] (by simp) (by omega)).mono ?_;clear H M;rintro e w5⟨Q,S,rfl,H,M,-⟩;go_wp2_with fail;go_ret2
 have n:=O (show fieldG wild E x s.tl=acV (sgn [40] :: (f.pc ++ [sgn [41],(c,4,[46]),([],1,x)])) (acJ wild (f.st)) ⟨22,x,0,[f.ix],0⟩ from by
  unfold fieldG
  try simp only
  rw [F.o,t.o] <;> rfl)
 rw [l.o,n.o]
 refine⟨?_,_,_,_,H.o,M.o⟩
 show _=Ending.returned (.tuple #[.string (aM (aN ((sgn [40] :: (f.pc ++ [sgn [41],(c,4,[46]),([],1,x)]))))),.int .i64 (acJ wild (f.st)).id])
 have q:aN (sgn [40] :: (f.pc ++ [sgn [41],(c,4,[46]),([],1,x)]))=Y:=by
  simp only [aN,qZ,sgn];rw [j.o,← k.o] <;> simp only [List.nil_append,List.append_nil,List.append_assoc,List.cons_append]
 rw [q];rfl
theorem pl_index {wild:Bool}{d N:Nat}{E:abd→abb}(hN:N≤900000)(hd:d≤100)(X:Hid (aci wild E (N+50000) (.int .i64 (d:Int))))(b:Nat)(r:b % 7=4){g:Nat}{iv:Value}{w:World}{s:abd}{xs:List NV}{nv lv:Value}(H:Hid (abH g wild iv w s xs nv lv))(hn:s.ns.length≤N) :
  Calls Tryz.prog 175 #[.pointer (some ⟨g,0,none⟩),.int .i64 (b:Int),.int .i64 ((d:Int)+1)] w (GPost g wild iv w xs nv (compG wild E b s)):=by
 have M:=O (abJ.refl (g:=g) (w:=w) (xs:=xs) (nv:=nv));have zd:IntKind.i64.wrap ((d:Int)+1 - 1)=(d:Int):=by rw [Int.add_sub_cancel];exact IntWalk.i64_in _ ⟨by omega,by omega⟩
 have R:Int.tmod (b:Int) 7=4:=by rw [Int.tmod_eq_emod_of_nonneg (by omega)];omega
 have t:=O (show compG wild E b s=indexG wild E s.tl by unfold compG;simp only;rw [if_neg (by omega)];rw [if_neg (by omega)];rw [if_neg (by omega)];rw [if_neg (by omega)];rw [if_pos r]);go_in
 go_wp2_with fail;refine (nxH H M).mono ?_;clear H M;rintro e w1⟨S,rfl,q1,H,M,-⟩;go_wp2_with fail;refine (wdH (s.nx) _).mono ?_;rintro e w2⟨x,rfl,Hx,lx,rfl⟩;clear r;go_wp2_with fail;refine (exH H M X (by omega)).mono ?_;clear H M;rintro e w3⟨l,c,Xj,FM,T,rfl,P,n,O3,W,C,H,M,-⟩;go_wp2_with fail;refine (exH H M X (by omega)).mono ?_;clear H M;rintro e w4⟨f,k,xs4,yH,U,rfl,L,y,B,Z,D,H,M,-⟩;have h:¬ 9223372036854775807 < 1+c.length:=by omega
 have i:¬ 9223372036854775807 < 1+c.length+2:=by omega
 have j:¬ 9223372036854775807 < 1+c.length+2+k.length:=by omega
 go_wp2_with fail;refine (gpH H M).mono ?_;clear H M;rintro e w5⟨a,V,rfl,m,Q,q5,H,M,-⟩;clear h i j;have F:¬ 9223372036854775807 < 1+c.length:=by omega
 have G:¬ 9223372036854775807 < 1+c.length+2:=by omega
 have I:¬ 9223372036854775807 < 1+c.length+2+k.length:=by omega
 have J:¬ 9223372036854775807 < 1+c.length+2+k.length+a.length:=by omega
 have K:¬ 9223372036854775807 < 1+c.length+2+k.length+a.length+1:=by omega
 go_wp2_with fail;obtain⟨Y,q⟩:∃ Y:Bs,Hid ([40] ++ c ++ [41,91] ++ k ++ a ++ [93]=Y):=⟨_,O rfl⟩;rw [show (⟨#[40]⟩:ByteArray) ++ aM (c) ++ (⟨#[41,91]⟩:ByteArray) ++ aM (k) ++ aM (a) ++ (⟨#[93]⟩:ByteArray)=aM Y from by rw [← q.o] <;> (simp only [← ak];rfl)];have A:Y.length≤10000000:=by rw [← q.o];simp only [aaO,List.length_cons,List.length_nil];omega
 refine (ptH H M [l.ix,f.ix] (by simp) (by omega)).mono ?_;clear H M;rintro e w6⟨xs6,XB,rfl,H,M,-⟩;go_wp2_with fail;go_ret2
 have u:=O (show indexG wild E s.tl=acV (sgn [40] :: (l.pc ++ sgn [41] :: sgn [91] :: (f.pc ++ [(a,4,[93])]))) (acJ wild (f.st)) ⟨23,[],0,[l.ix,f.ix],0⟩ from by
  unfold indexG
  try simp only
  rw [P.o,L.o,m.o] <;> rfl)
 rw [t.o,u.o]
 refine⟨?_,_,_,_,H.o,M.o⟩
 show _=Ending.returned (.tuple #[.string (aM (aN ((sgn [40] :: (l.pc ++ sgn [41] :: sgn [91] :: (f.pc ++ [(a,4,[93])])))))),.int .i64 (acJ wild (f.st)).id])
 have v:aN (sgn [40] :: (l.pc ++ sgn [41] :: sgn [91] :: (f.pc ++ [(a,4,[93])])))=Y:=by
  simp only [aN,qZ,sgn];rw [n.o,y.o,← q.o] <;> simp only [List.nil_append,List.append_nil,List.append_assoc,List.cons_append]
 rw [v];rfl
theorem pl_call {wild:Bool}{d N:Nat}{E:abd→abb}(hN:N≤900000)(hd:d≤100)(X:Hid (aci wild E (N+50000) (.int .i64 (d:Int))))(r:Hid (LsC wild E N (.int .i64 ((d:Int)+1))))(b:Nat)(v:b % 7=2){g:Nat}{iv:Value}{w:World}{s:abd}{xs:List NV}{nv lv:Value}(H:Hid (abH g wild iv w s xs nv lv))(hn:s.ns.length≤N) :
  Calls Tryz.prog 175 #[.pointer (some ⟨g,0,none⟩),.int .i64 (b:Int),.int .i64 ((d:Int)+1)] w (GPost g wild iv w xs nv (compG wild E b s)):=by
 have M:=O (abJ.refl (g:=g) (w:=w) (xs:=xs) (nv:=nv));have zd:IntKind.i64.wrap ((d:Int)+1 - 1)=(d:Int):=by rw [Int.add_sub_cancel];exact IntWalk.i64_in _ ⟨by omega,by omega⟩
 have U:Int.tmod (b:Int) 7=2:=by rw [Int.tmod_eq_emod_of_nonneg (by omega)];omega
 have u:=O (show compG wild E b s=callG wild E (acM s.nx) s.tl by unfold compG;simp only;rw [if_neg (by omega)];rw [if_neg (by omega)];rw [if_pos v]);go_in
 go_wp2_with fail;refine (nxH H M).mono ?_;clear H M;rintro e w1⟨V,rfl,q1,H,M,-⟩;go_wp2_with fail;refine (wdH (s.nx) _).mono ?_;rintro e w2⟨x,rfl,B,lx,rfl⟩;rw [B.o] at u
 clear v;obtain⟨t,h⟩:∃ m,m=(s.tl).nx % 4:=⟨_,rfl⟩;have zm4:Int.tmod ((s.tl).nx:Int) 4=(t:Int):=by rw [Int.tmod_eq_emod_of_nonneg (by omega),h];omega
 have n:=O h.symm;have I:t≤3:=by omega
 clear h;go_wp2_with fail;refine (nxH H M).mono ?_;clear H M;rintro e w3⟨W,rfl,q3,H,M,-⟩;go_wp2_with fail;refine (lsH H M X r (m:=t) (by omega) (by omega)).mono ?_;clear H M;rintro e w4⟨j,i,A4,c4,xs4,yH,Z,rfl,S,C,F,G,tl4,J,q,H,M,-⟩;have c:¬ 9223372036854775807 < x.length+1:=by omega
 have f:¬ 9223372036854775807 < x.length+1+i.length:=by omega
 go_wp2_with fail;refine (gpH H M).mono ?_;clear H M;rintro e w5⟨a,lv5,rfl,k,T,q5,H,M,R⟩
 replace q:=kp R q
 clear R;clear c f;have K:¬ 9223372036854775807 < x.length+1:=by omega
 have L:¬ 9223372036854775807 < x.length+1+i.length:=by omega
 have P:¬ 9223372036854775807 < x.length+1+i.length+a.length:=by omega
 have Q:¬ 9223372036854775807 < x.length+1+i.length+a.length+1:=by omega
 go_wp2_with fail;obtain⟨Y,l⟩:∃ Y:Bs,Hid (x ++ [40] ++ i ++ a ++ [41]=Y):=⟨_,O rfl⟩;rw [show aM (x) ++ (⟨#[40]⟩:ByteArray) ++ aM (i) ++ aM (a) ++ (⟨#[41]⟩:ByteArray)=aM Y from by rw [← l.o] <;> (simp only [← ak];rfl)];have D:Y.length≤10000000:=by rw [← l.o];simp only [aaO,List.length_cons,List.length_nil];omega
 refine (ptL H M q (by omega)).mono ?_;clear H M;rintro e w6⟨xs6,XB,rfl,H,M,-⟩;go_wp2_with fail;go_ret2
 have y:=O (show callG wild E x s.tl=acV (([],1,x) :: sgn [40] :: (j.pc ++ [(a,4,[41])])) (acJ wild (j.st)) ⟨21,x,0,j.ix,0⟩ from by
  unfold callG
  try simp only
  rw [n.o,S.o,k.o] <;> rfl)
 rw [u.o,y.o]
 refine⟨?_,_,_,_,H.o,M.o⟩
 show _=Ending.returned (.tuple #[.string (aM (aN ((([],1,x) :: sgn [40] :: (j.pc ++ [(a,4,[41])]))))),.int .i64 (acJ wild (j.st)).id])
 have A:aN (([],1,x) :: sgn [40] :: (j.pc ++ [(a,4,[41])]))=Y:=by
  simp only [aN,qZ,sgn];rw [C.o,← l.o] <;> simp only [List.nil_append,List.append_nil,List.append_assoc,List.cons_append]
 rw [A];rfl
theorem pl_array {wild:Bool}{d N:Nat}{E:abd→abb}(hN:N≤900000)(hd:d≤100)(X:Hid (aci wild E (N+50000) (.int .i64 (d:Int))))(q:Hid (LsC wild E N (.int .i64 ((d:Int)+1))))(b:Nat)(t:b % 7=5){g:Nat}{iv:Value}{w:World}{s:abd}{xs:List NV}{nv lv:Value}(H:Hid (abH g wild iv w s xs nv lv))(hn:s.ns.length≤N) :
  Calls Tryz.prog 175 #[.pointer (some ⟨g,0,none⟩),.int .i64 (b:Int),.int .i64 ((d:Int)+1)] w (GPost g wild iv w xs nv (compG wild E b s)):=by
 have M:=O (abJ.refl (g:=g) (w:=w) (xs:=xs) (nv:=nv));have zd:IntKind.i64.wrap ((d:Int)+1 - 1)=(d:Int):=by rw [Int.add_sub_cancel];exact IntWalk.i64_in _ ⟨by omega,by omega⟩
 have L:Int.tmod (b:Int) 7=5:=by rw [Int.tmod_eq_emod_of_nonneg (by omega)];omega
 have u:=O (show compG wild E b s=arrayG wild E s.tl by unfold compG;simp only;rw [if_neg (by omega)];rw [if_neg (by omega)];rw [if_neg (by omega)];rw [if_neg (by omega)];rw [if_neg (by omega)];rw [if_pos t]);go_in
 go_wp2_with fail;refine (nxH H M).mono ?_;clear H M;rintro e w1⟨P,rfl,q1,H,M,-⟩;go_wp2_with fail;refine (wdH (s.nx) _).mono ?_;rintro e w2⟨x,rfl,Hx,lx,rfl⟩;clear t;obtain⟨h,c⟩:∃ m,m=(s.tl).nx % 4:=⟨_,rfl⟩;have zm4:Int.tmod ((s.tl).nx:Int) 4=(h:Int):=by rw [Int.tmod_eq_emod_of_nonneg (by omega),c];omega
 have l:=O c.symm;have C:h≤3:=by omega
 clear c;have Z:IntKind.i64.wrap (1+(h:Int))=((1+h:Nat):Int):=by rw [IntWalk.i64_in _ (by omega)];omega
 go_wp2_with fail;refine (nxH H M).mono ?_;clear H M;rintro e w3⟨Q,rfl,q3,H,M,-⟩;go_wp2_with fail;refine (lsH H M X q (m:=1+h) (by omega) (by omega)).mono ?_;clear H M;rintro e w4⟨f,i,A4,c4,V,yH,S,rfl,J,Ji,r,B,U,D,n,H,M,-⟩;go_wp2_with fail;refine (gpH H M).mono ?_;clear H M;rintro e w5⟨a,T,rfl,j,K,q5,H,M,R⟩
 replace n:=kp R n
 clear R;have F:¬ 9223372036854775807 < 1+a.length:=by omega
 have G:¬ 9223372036854775807 < 1+a.length+i.length:=by omega
 have I:¬ 9223372036854775807 < 1+a.length+i.length+1:=by omega
 go_wp2_with fail;obtain⟨Y,k⟩:∃ Y:Bs,Hid ([91] ++ a ++ i ++ [93]=Y):=⟨_,O rfl⟩;rw [show (⟨#[91]⟩:ByteArray) ++ aM (a) ++ aM (i) ++ (⟨#[93]⟩:ByteArray)=aM Y from by rw [← k.o] <;> (simp only [← ak];rfl)];have A:Y.length≤10000000:=by rw [← k.o];simp only [aaO,List.length_cons,List.length_nil];omega
 refine (ptL H M n (by omega)).mono ?_;clear H M;rintro e w6⟨W,XB,rfl,H,M,-⟩;go_wp2_with fail;go_ret2
 have v:=O (show arrayG wild E s.tl=acV (sgn [91] :: (Pcs.on a f.pc ++ [sgn [93]])) (acJ wild (f.st)) ⟨26,[],0,f.ix,0⟩ from by
  unfold arrayG
  try simp only
  rw [l.o,J.o,j.o] <;> rfl)
 rw [u.o,v.o]
 refine⟨?_,_,_,_,H.o,M.o⟩
 show _=Ending.returned (.tuple #[.string (aM (aN ((sgn [91] :: (Pcs.on a f.pc ++ [sgn [93]]))))),.int .i64 (acJ wild (f.st)).id])
 have y:aN (sgn [91] :: (Pcs.on a f.pc ++ [sgn [93]]))=Y:=by
  simp only [aN,qZ,sgn];rw [r.o (by omega),← k.o] <;> simp only [List.nil_append,List.append_nil,List.append_assoc,List.cons_append]
 rw [y];rfl
theorem put_lenR (s:abd)(n:Nd):(s.put n).ns.length=s.ns.length+1:=aaO
theorem pl_rec (wild:Bool)(d N:Nat)(hN:N≤900000)(hE:abO wild d (N+50000))(hL:abN d≤100000)(hC:abM d≤10000)(b:Nat)(hb:b % 7=6)(g:Nat)(iv:Value)(w:World)(s:abd)(xs:List NV)(nv lv:Value)(h:abH g wild iv w s xs nv lv)(hn:s.ns.length≤N) :
  Calls Tryz.prog 175 #[.pointer (some ⟨g,0,none⟩),.int .i64 (b:Int),.int .i64 ((d:Int)+1)] w (GPost g wild iv w xs nv (compG wild (acN wild d) b s)):=by
 have H:=O h;have U:=O (abJ.refl (g:=g) (w:=w) (xs:=xs) (nv:=nv));clear h;have BE:=O (expr_bd wild d);have HEC:=O hE;have hdl:=d_le_Lb d;have zd:IntKind.i64.wrap ((d:Int)+1 - 1)=(d:Int):=by rw [Int.add_sub_cancel];exact IntWalk.i64_in _ ⟨by omega,by omega⟩
 clear hE;have hm7:Int.tmod (b:Int) 7=6:=by rw [Int.tmod_eq_emod_of_nonneg (by omega)];omega
 have HB:=O (show compG wild (acN wild d) b s=recG wild (acN wild d) (acM s.nx) b s.tl by unfold compG;simp only;rw [if_neg (by omega),if_neg (by omega),if_neg (by omega),if_neg (by omega),if_neg (by omega),if_neg (by omega)]);obtain⟨q,hq⟩:∃ q,q=b % 3:=⟨_,rfl⟩;have zq:Int.tmod (b:Int) 3=(q:Int):=by rw [Int.tmod_eq_emod_of_nonneg (by omega),hq];omega
 obtain⟨m,hm⟩:∃ m,m=1+q:=⟨_,rfl⟩;have ab2:IntKind.i64.wrap (1+(q:Int))=(m:Int):=by rw [IntWalk.i64_in _ (by omega)];omega
 have hm3:m≤3:=by omega
 have HMB:=O (show m=1+b % 3 by rw [hm,hq]);clear hm hq;obtain⟨j0,hj0,hy0,hy1,hy2⟩:=info_parts gN;have hg0:=H.o.lt;have lx:=wordG_le s.nx;obtain⟨x,hx⟩:∃ x,x=acM s.nx:=⟨_,rfl⟩;rw [← hx] at lx HB
 have HX:=O hx;clear hb;have hsn:s.tl.ns.length=s.ns.length:=rfl;go_in
 go_wp2_with fail;refine (plNext_any g wild _ _ (s) _ _ _ H.o).mono ?_;rintro e w1⟨rfl,L,h,m⟩;have I:=O h;have P:=O (U.o.mvp m);clear h m H U;go_wp2_with fail;refine (plWord_any s.nx _).mono ?_;rintro e w9⟨rfl,rfl⟩;rw [← hx];clear hx;have hms0:=P.o.size;have Xp:=O (abK.empty (w0:=w) I.o rfl hms0);have HH:=O (I.o.alloc (.cells #[] 3));have MM:=O (P.o.dD (o:=.cells #[] 3));clear I P;go_wp2_with fail;go_loopw [29,30,31] (fun sv l0 i wr=>∃ (k:Nat) (r:aa') (A:Option Addr) (c:Nat) (xs1:List NV) (gW L:Value),k≤m∧i=.int .i64 k∧sv=.string (aM (aN r.pc))∧l0=.slice A r.ix.length c∧Hid (r.ix.length=k)∧(aN r.pc).length≤k * 100020∧r.st.ns.length≤N+k * 10001∧Hid (putsG wild (acN wild d) (m - k) r=putsG wild (acN wild d) m ⟨[],[],s.tl⟩)∧Hid (abK w wr xs1 (.slice A r.ix.length c) r.ix)∧Hid (abH g wild iv wr r.st xs1 gW L)∧Hid (abJ g w xs nv wr xs1 gW)) (fun _ _ i _=>m - (intOf i).toNat)
 case atStart=>exact⟨0,⟨[],[],s.tl⟩,_,_,xs,nv,L,aaL _,rfl,rfl,rfl,O rfl,by simp [aN],(by first|(simpa using hn)|(show s.tl.ns.length≤_;omega)),O rfl,Xp,HH,MM⟩
 case round =>
  clear Xp HH MM;obtain⟨wo,rfl⟩:∃ wo:World,wo=wr:=⟨_,rfl⟩;obtain⟨k,r,A,c,xs1,gW,lv9,hk,rfl,rfl,rfl,K,hlen,hnl,HR,j,H,U⟩:=hrel;by_cases hlt:k < m
  ·obtain⟨mm,hmm⟩:∃ mm,m - k=mm+1:=⟨m - k - 1,by omega⟩;have hmm2:m - (k+1)=mm:=by omega
   rw [hmm] at HR
   have U1:=O hmm2;clear hmm hmm2;obtain⟨X,hX⟩:∃ X,X=aN r.pc:=⟨_,rfl⟩;rw [← hX] at hlen ⊢
   have HX9:=O hX;clear hX;by_cases hk0:k=0
   ·subst hk0;have hnil:r.ix=[]:=List.eq_nil_of_length_eq_zero K.o;have t:=O (show putsG wild (acN wild d) (mm+1) r=putsG wild (acN wild d) mm ⟨r.pc ++ (([],1,acM r.st.nx) :: sgn [58] :: (acN wild d r.st.tl).pc),r.ix ++ [(acN wild d r.st.tl).st.id],(acN wild d r.st.tl).st.put ⟨25,acM r.st.nx,0,[(acN wild d r.st.tl).ix],0⟩⟩ by rw [putsG];simp only [if_pos hnil]);clear hnil;go_wp2_with fail;refine (plNext_any g wild _ _ (r.st) _ _ _ H.o).mono ?_;rintro e w1⟨rfl,L,h,m⟩;have I:=O h;have P:=O (U.o.mvp m)
    replace j:=O (j.o.mv H.o m)
    clear h m H U;go_wp2_with fail;refine (plWord_any (r.st).nx _).mono ?_;rintro e w99⟨rfl,rfl⟩;have ly:=wordG_le (r.st).nx;obtain⟨y,hy⟩:∃ y,y=acM (r.st).nx:=⟨_,rfl⟩;rw [← hy] at ly t ⊢
    clear hy;have hs0:(r.st).tl.ns.length=r.st.ns.length:=rfl;go_wp2_with fail;refine (HEC.o g _ _ ((r.st).tl) _ _ _ I.o (by first | omega|(simp only [acI,someS_ns];omega))).mono ?_;rintro e w2⟨rfl,xs2,Qu,lv2,h,m⟩;have R:=O h;have M2:=O (P.o.trans m)
    replace j:=O (j.o.mw I.o m)
    clear h m I P;have bt2:=BE.o.text ((r.st).tl);have bn2:=BE.o.nodes ((r.st).tl);obtain⟨u,ha2⟩:∃ a,a=acN wild d ((r.st).tl):=⟨_,rfl⟩;rw [← ha2] at R bt2 bn2 ⊢
    obtain⟨T2,V⟩:∃ T,T=aN u.pc:=⟨_,rfl⟩;have tl2:T2.length≤100000:=by rw [V];exact Nat.le_trans bt2 hL
    rw [← V];have HA2:=O ha2;have HT2:=O V;clear ha2 V bt2
    (try simp only [acI,someS_ns] at bn2)
    rw [← HA2.o] at t
    have cb0:¬ 9223372036854775807 < X.length+y.length:=by omega
    have cb1:¬ 9223372036854775807 < X.length+y.length+1:=by omega
    have cb2:¬ 9223372036854775807 < X.length+y.length+1+T2.length:=by omega
    have C:=O (j.o.apart (n:=1) (c:=1) (aaJ _))
    replace j:=O (j.o.alloc (.cells (intCells [u.ix]).toArray 3))
    have abR:=O (Mx w2 [u.ix]);have HK:=O (R.o.alloc (.cells (intCells [u.ix]).toArray 3));have abS:=O (M2.o.dD (o:=.cells (intCells [u.ix]).toArray 3));have l:=M2.o.size;clear R M2;go_wp2_with fail;obtain⟨Y,F⟩:∃ Y:Bs,Y=X ++ y ++ [58] ++ T2:=⟨_,rfl⟩;rw [show aM (X ++ y) ++ (⟨#[58]⟩:ByteArray) ++ aM (T2)=aM Y from by rw [F] <;> (simp only [← ak];rfl)];have abT:Y.length≤10000000:=by rw [F];simp only [aaO,List.length_cons,List.length_nil];omega
    have HY:=O F;clear F;refine (plPut_any g wild _ _ (u.st) _ _ _ HK.o 25 y 0 _ [u.ix] abR.o (by first | omega|(simp only [acI,someS_ns];omega))).mono ?_;rintro e w3⟨rfl,FM,h,m⟩
    replace j:=O (j.o.put HK.o h m C.o)
    have H3:=O h;have M3:=O (abS.o.putp (x:=(⟨25,y,0,[u.ix],0⟩,(.slice (some ⟨w2.heap.size,0,none⟩) 1 1))) m (gw_at l));clear h m;have J:=O (j.o.alloc (.cells #[.int .i64 (abd.id (u.st))] 3));have HA:=O (H3.o.alloc (.cells #[.int .i64 (abd.id (u.st))] 3));have MA:=O (M3.o.dD (o:=(.cells #[.int .i64 (abd.id (u.st))] 3)));have l:=MA.o.size;have hrl:r.ix.length≤3:=by have:=K.o;omega
    go_wp2_with (at_builtin;go_loud (refine wpList_append_lies _ rfl (.tmp 272) (.tmp 279) 24 rfl 0 3 j0 (.int .i64 0) 1 8 Tryz.underlying24 hj0 hy0 hy1 hy2 rfl (by decide) _ r.ix.length (intCells r.ix) rfl J.o.row ⟨w3.heap.size,0,none⟩ 1 1 [.int .i64 (abd.id (u.st))] rfl rfl (cell_one_new _ _ _) (by simp [Value.oneCell']) (by omega) (by simp only [maxLen];omega) (by omega) (aaL _) _ rfl ?_);intro gg14 cap14 Tx B f Q hlt;have L33:=O (J.o.grow HA.o B Q l);have H33:=O (HA.o.grow J.o f (fun b hb=>aaK (aaW hg0 (J.o.lo b hb))));have M33:=O (MA.o.grow J.o f);clear B f Q hlt)
    clear J HA MA l j H3 M3;have M:=O (show Y=aN (r.pc ++ (([],1,y) :: sgn [58] :: u.pc)) by rw [qZ,HY.o,← HX9.o];simp only [aN,sgn];rw [HT2.o];simp only [List.nil_append,List.append_nil,List.append_assoc,List.cons_append]);exact⟨⟨0+1,⟨r.pc ++ (([],1,y) :: sgn [58] :: u.pc),r.ix ++ [abd.id (u.st)],(u.st).put ⟨25,y,0,[u.ix],0⟩⟩,_,_,_,_,_,by omega,by go_num,congrArg Value.string (congrArg aM M.o),by rw [aaO];rfl,O (by rw [aaO,K.o];rfl),by rw [← M.o,HY.o];simp only [aaO,List.length_cons,List.length_nil];omega,by show (abd.put _ _).ns.length≤_;rw [put_lenR];omega,O (by show putsG wild (acN wild d) (m - (0+1)) _=_;rw [U1.o,← t.o,HR.o]),by rw [aaO];exact L33,H33,M33⟩,by simp [intOf];omega⟩
   ·have hne:r.ix ≠ []:=fun h=>hk0 (by rw [← K.o,h];rfl)
    have t:=O (show putsG wild (acN wild d) (mm+1) r=putsG wild (acN wild d) mm ⟨r.pc ++ ((acP wild r.st,4,[44]) :: ([],1,acM (acJ wild r.st).nx) :: sgn [58] :: (acN wild d (acJ wild r.st).tl).pc),r.ix ++ [(acN wild d (acJ wild r.st).tl).st.id],(acN wild d (acJ wild r.st).tl).st.put ⟨25,acM (acJ wild r.st).nx,0,[(acN wild d (acJ wild r.st).tl).ix],0⟩⟩ by rw [putsG];simp only [if_neg hne]);have abQ:(0:Int) < (k:Int):=by omega
    clear hne hk0;go_wp2_with fail;refine (plGap_any g wild _ _ (r.st) _ _ _ H.o).mono ?_;rintro e w1⟨rfl,L,h,m⟩;have I:=O h;have P:=O (U.o.mvp m)
    replace j:=O (j.o.mv H.o m)
    clear h m H U;have gl1:=gapG_len wild (r.st);obtain⟨E,D⟩:∃ G,G=acP wild (r.st):=⟨_,rfl⟩;rw [← D] at gl1 ⊢
    have HG1:=O D;clear D;rw [← HG1.o] at t
    have cg0:¬ 9223372036854775807 < E.length+1:=by omega
    have cg1:¬ 9223372036854775807 < X.length+(E.length+1):=by omega
    go_wp2_with fail;obtain⟨Z,hZ⟩:∃ Z:Bs,Z=X ++ (E ++ [44]):=⟨_,rfl⟩;rw [show (aM X ++ (aM E ++ (⟨#[44]⟩:ByteArray)))=aM Z from by rw [hZ,← ak,← ak];rfl];have hZl:Z.length≤X.length+9:=by rw [hZ];simp only [aaO,List.length_cons,List.length_nil];omega
    have HZ:=O hZ;clear hZ cg0 cg1;refine (plNext_any g wild _ _ (acJ wild (r.st)) _ _ _ I.o).mono ?_;rintro e w2⟨rfl,lv2,h,m⟩;have R:=O h;have M2:=O (P.o.mvp m)
    replace j:=O (j.o.mv I.o m)
    clear h m I P;go_wp2_with fail;refine (plWord_any ((acJ wild r.st)).nx _).mono ?_;rintro e w99⟨rfl,rfl⟩;have ly:=wordG_le ((acJ wild r.st)).nx;obtain⟨y,hy⟩:∃ y,y=acM ((acJ wild r.st)).nx:=⟨_,rfl⟩;rw [← hy] at ly t ⊢
    clear hy;have hs0:((acJ wild r.st)).tl.ns.length=r.st.ns.length:=by show (acJ wild r.st).ns.length=_;rw [acI]
    go_wp2_with fail;refine (HEC.o g _ _ ((acJ wild (r.st)).tl) _ _ _ R.o (by first | omega|(simp only [acI,someS_ns];omega))).mono ?_;rintro e w3⟨rfl,Xj,FM,lv3,h,m⟩;have H3:=O h;have M3:=O (M2.o.trans m)
    replace j:=O (j.o.mw R.o m)
    clear h m R M2;have bt3:=BE.o.text ((acJ wild (r.st)).tl);have bn3:=BE.o.nodes ((acJ wild (r.st)).tl);obtain⟨v,FK⟩:∃ a,a=acN wild d ((acJ wild (r.st)).tl):=⟨_,rfl⟩;rw [← FK] at H3 bt3 bn3 ⊢
    obtain⟨T3,W⟩:∃ T,T=aN v.pc:=⟨_,rfl⟩;have tl3:T3.length≤100000:=by rw [W];exact Nat.le_trans bt3 hL
    rw [← W];have gM:=O FK;have HT3:=O W;clear FK W bt3
    (try simp only [acI,someS_ns] at bn3)
    rw [← gM.o] at t
    have cb0:¬ 9223372036854775807 < Z.length+y.length:=by omega
    have cb1:¬ 9223372036854775807 < Z.length+y.length+1:=by omega
    have cb2:¬ 9223372036854775807 < Z.length+y.length+1+T3.length:=by omega
    have C:=O (j.o.apart (n:=1) (c:=1) (aaJ _))
    replace j:=O (j.o.alloc (.cells (intCells [v.ix]).toArray 3))
    have abR:=O (Mx w3 [v.ix]);have HK:=O (H3.o.alloc (.cells (intCells [v.ix]).toArray 3));have abS:=O (M3.o.dD (o:=.cells (intCells [v.ix]).toArray 3));have l:=M3.o.size;clear H3 M3;go_wp2_with fail;obtain⟨Y,F⟩:∃ Y:Bs,Y=Z ++ y ++ [58] ++ T3:=⟨_,rfl⟩;rw [show aM (Z ++ y) ++ (⟨#[58]⟩:ByteArray) ++ aM (T3)=aM Y from by rw [F] <;> (simp only [← ak];rfl)];have abT:Y.length≤10000000:=by rw [F];simp only [aaO,List.length_cons,List.length_nil];omega
    have HY:=O F;clear F;refine (plPut_any g wild _ _ (v.st) _ _ _ HK.o 25 y 0 _ [v.ix] abR.o (by first | omega|(simp only [acI,someS_ns];omega))).mono ?_;rintro e w4⟨rfl,yH,h,m⟩
    replace j:=O (j.o.put HK.o h m C.o)
    have H4:=O h;have M4:=O (abS.o.putp (x:=(⟨25,y,0,[v.ix],0⟩,(.slice (some ⟨w3.heap.size,0,none⟩) 1 1))) m (gw_at l));clear h m;have J:=O (j.o.alloc (.cells #[.int .i64 (abd.id (v.st))] 3));have HA:=O (H4.o.alloc (.cells #[.int .i64 (abd.id (v.st))] 3));have MA:=O (M4.o.dD (o:=(.cells #[.int .i64 (abd.id (v.st))] 3)));have l:=MA.o.size;have hrl:r.ix.length≤3:=by have:=K.o;omega
    go_wp2_with (at_builtin;go_loud (refine wpList_append_lies _ rfl (.tmp 272) (.tmp 279) 24 rfl 0 3 j0 (.int .i64 0) 1 8 Tryz.underlying24 hj0 hy0 hy1 hy2 rfl (by decide) _ r.ix.length (intCells r.ix) rfl J.o.row ⟨w4.heap.size,0,none⟩ 1 1 [.int .i64 (abd.id (v.st))] rfl rfl (cell_one_new _ _ _) (by simp [Value.oneCell']) (by omega) (by simp only [maxLen];omega) (by omega) (aaL _) _ rfl ?_);intro gg14 cap14 Tx B f Q hlt;have L33:=O (J.o.grow HA.o B Q l);have H33:=O (HA.o.grow J.o f (fun b hb=>aaK (aaW hg0 (J.o.lo b hb))));have M33:=O (MA.o.grow J.o f);clear B f Q hlt)
    clear J HA MA l j H4 M4;have M:=O (show Y=aN (r.pc ++ ((E,4,[44]) :: ([],1,y) :: sgn [58] :: v.pc)) by rw [qZ,HY.o,HZ.o,← HX9.o];simp only [aN,sgn];rw [HT3.o];simp only [List.nil_append,List.append_nil,List.append_assoc,List.cons_append]);exact⟨⟨k+1,⟨r.pc ++ ((E,4,[44]) :: ([],1,y) :: sgn [58] :: v.pc),r.ix ++ [abd.id (v.st)],(v.st).put ⟨25,y,0,[v.ix],0⟩⟩,_,_,_,_,_,by omega,by go_num,congrArg Value.string (congrArg aM M.o),by rw [aaO];rfl,O (by rw [aaO,K.o];rfl),by rw [← M.o,HY.o];simp only [aaO,List.length_cons,List.length_nil];omega,by show (abd.put _ _).ns.length≤_;rw [put_lenR];omega,O (by show putsG wild (acN wild d) (m - (k+1)) _=_;rw [U1.o,← t.o,HR.o]),by rw [aaO];exact L33,H33,M33⟩,by simp [intOf];omega⟩
  ·obtain rfl:k=m:=by omega
   have HRR:=O (show putsG wild (acN wild d) k ⟨[],[],s.tl⟩=r by rw [← HR.o,Nat.sub_self];rfl);clear HR;have tl9:(aN r.pc).length≤400000:=by omega
   obtain⟨S,hS⟩:∃ S,S=aN r.pc:=⟨_,rfl⟩;rw [← hS] at tl9 ⊢
   have HS:=O hS;clear hS hlen;have cp0_0:¬ 9223372036854775807 < x.length+1:=by omega
   have cp0_1:¬ 9223372036854775807 < x.length+1+S.length:=by omega
   go_wp2_with fail;refine (plGap_any g wild _ _ (r.st) _ _ _ H.o).mono ?_;rintro e w1⟨rfl,L,h,m⟩;have I:=O h;have P:=O (U.o.mvp m)
   replace j:=O (j.o.mv H.o m)
   clear h m H U;have gl1:=gapG_len wild (r.st);obtain⟨E,D⟩:∃ G,G=acP wild (r.st):=⟨_,rfl⟩;rw [← D] at gl1 ⊢
   have HG1:=O D;clear D;clear cp0_0 cp0_1;have cq0:¬ 9223372036854775807 < x.length+1:=by omega
   have cq1:¬ 9223372036854775807 < x.length+1+S.length:=by omega
   have cq2:¬ 9223372036854775807 < x.length+1+S.length+E.length:=by omega
   have cq3:¬ 9223372036854775807 < x.length+1+S.length+E.length+1:=by omega
   go_wp2_with fail;obtain⟨Y,F⟩:∃ Y:Bs,Y=x ++ [123] ++ S ++ E ++ [125]:=⟨_,rfl⟩;rw [show aM (x) ++ (⟨#[123]⟩:ByteArray) ++ aM (S) ++ aM (E) ++ (⟨#[125]⟩:ByteArray)=aM Y from by rw [F] <;> (simp only [← ak];rfl)];have abT:Y.length≤10000000:=by rw [F];simp only [aaO,List.length_cons,List.length_nil];omega
   have HY:=O F;clear F;refine (plPut_any g wild _ _ (acJ wild (r.st)) _ _ _ I.o 24 x 0 _ r.ix j.o.row (by first | omega|(simp only [acI,someS_ns];omega))).mono ?_;rintro e w2⟨rfl,Qu,h,m⟩;have R:=O h;have M2:=O (P.o.putp (x:=(⟨24,x,0,r.ix,0⟩,(.slice A r.ix.length c))) m (fun b hb=>j.o.lo b hb));clear h m;go_wp2_with fail;go_ret2
   rw [HB.o]
   have HF:=O (show recG wild (acN wild d) x b s.tl=acV (([],1,x) :: sgn [123] :: (r.pc ++ [(E,4,[125])])) (acJ wild (r.st)) ⟨24,x,0,r.ix,0⟩ from by
    unfold recG;simp only
    rw [← HMB.o,HRR.o,← HG1.o])
   rw [HF.o]
   refine⟨?_,_,_,_,R.o,M2.o⟩
   show _=Ending.returned (.tuple #[.string (aM (aN (([],1,x) :: sgn [123] :: (r.pc ++ [(E,4,[125])])))),.int .i64 (acJ wild (r.st)).id])
   have HI:=(show aN (([],1,x) :: sgn [123] :: (r.pc ++ [(E,4,[125])]))=Y from by
    simp only [aN,qZ,sgn];rw [HY.o,← HS.o];simp only [List.nil_append,List.append_nil,List.append_assoc,List.cons_append])
   rw [HI];rfl
section
variable (wild:Bool) (d N:Nat) (hN:N≤900000) (hE:abO wild d (N+50000)) (hL:abN d≤100000) (hC:abM d≤10000)
include hN hE hL hC
theorem xc_is:aci wild (acN wild d) (N+50000) (.int .i64 (d:Int)):=⟨hE,bd_more (expr_bd wild d) hL hC,fun s=>expr_good wild d s⟩
theorem lsc_is:LsC wild (acN wild d) N (.int .i64 ((d:Int)+1)):=fun m a g iv w s xs nv lv h b=>plList_any wild d N hN hE hL hC m a g iv w s xs nv lv h b
theorem pl_op (hd:d≤100)(b:Nat)(h150:b < 150)(g:Nat)(iv:Value)(w:World)(s:abd)(xs:List NV)(nv lv:Value)(h:abH g wild iv w s xs nv lv)(c:s.ns.length≤N) :
  Calls Tryz.prog 174 #[.pointer (some ⟨g,0,none⟩),.int .i64 (b:Int),.int .i64 ((d:Int)+1)] w (GPost g wild iv w xs nv (opG wild (acN wild d) b s)):=by
 have X:=O (xc_is wild d N hN hE hL hC);by_cases a:b < 75
 ·by_cases e:b % 2=0
  ·exact pl_not hN hd X b a e (O h) c
  ·exact pl_neg hN hd X b a e (O h) c
 ·exact pl_bin hN hd X b a h150 (O h) c
theorem pl_comp (hd:d≤100)(b:Nat)(g:Nat)(iv:Value)(w:World)(s:abd)(xs:List NV)(nv lv:Value)(h:abH g wild iv w s xs nv lv)(c:s.ns.length≤N) :
  Calls Tryz.prog 175 #[.pointer (some ⟨g,0,none⟩),.int .i64 (b:Int),.int .i64 ((d:Int)+1)] w (GPost g wild iv w xs nv (compG wild (acN wild d) b s)):=by
 have X:=O (xc_is wild d N hN hE hL hC);have e:=O (lsc_is wild d N hN hE hL hC);have h7:b % 7 < 7:=Nat.mod_lt _ (by decide);obtain a | a | a | a | a | a | a:b % 7=0∨b % 7=1∨b % 7=2∨b % 7=3∨b % 7=4∨b % 7=5∨b % 7=6:=by omega
 ·exact pl_if hN hd X b a (O h) c
 ·exact pl_let hN hd X b a (O h) c
 ·exact pl_call hN hd X e b a (O h) c
 ·exact pl_field hN hd X b a (O h) c
 ·exact pl_index hN hd X b a (O h) c
 ·exact pl_array hN hd X e b a (O h) c
 ·exact pl_rec wild d N hN hE hL hC b a g iv w s xs nv lv h c
theorem expr_next (hd:d≤100):abO wild (d+1) N:=by
 intro g iv w s xs nv lv h C;have B:=d_le_Lb d;by_cases h60:s.nx < 60
 ·rw [show acN wild (d+1) s=leafG s.nx s.tl by rw [acN,if_pos h60]];exact expr_leaf ((d+1:Nat):Int) (by omega) g wild iv w s xs nv lv h (by omega) s.nx h60 (.inr ⟨by omega,rfl⟩)
 have i:s.tl.ns.length≤N:=C;have y:=O (pl_op wild d N hN hE hL hC hd);have r:=O (pl_comp wild d N hN hE hL hC hd);clear hE;have H:=O h;clear h;obtain⟨b,m⟩:∃ b,b=s.nx:=⟨_,rfl⟩;have A:=O (show acN wild (d+1) s=if b < 150 then opG wild (acN wild d) b s.tl else compG wild (acN wild d) b s.tl by rw [acN,if_neg h60,m]);rw [A.o];rw [← m] at h60
 have x:=O m;clear m;have E:¬ (b:Int) < 20:=by omega
 have F:¬ (b:Int) < 30:=by omega
 have G:¬ (b:Int) < 60:=by omega
 have I:¬ ((d:Int)+1≤0):=by omega
 by_cases h150:b < 150
 ·rw [if_pos h150];have l:(b:Int) < 150:=by omega
  rw [show ((d+1:Nat):Int)=(d:Int)+1 by omega];go_enter Tryz.func117,Tryz.ntmps117
  go_wp2_with fail;refine (plNext_any g wild iv _ s xs nv lv H.o).mono ?_;rintro e w1⟨rfl,a,h1,j⟩;have n:=O h1;have t:=O (abJ.of_mv xs j);clear h1 j H;rw [← x.o];go_wp2_with fail;refine (y.o b h150 g iv _ s.tl xs nv a n.o i).mono ?_;rintro e D⟨rfl,f,v,c,h2,k⟩;have q:=O h2;have u:=O (t.o.trans k);clear h2 k;go_wp2_with fail;go_ret2
  exact⟨rfl,f,v,c,q.o,u.o⟩
 ·rw [if_neg h150];have l:¬ (b:Int) < 150:=by omega
  rw [show ((d+1:Nat):Int)=(d:Int)+1 by omega];go_enter Tryz.func117,Tryz.ntmps117
  go_wp2_with fail;refine (plNext_any g wild iv _ s xs nv lv H.o).mono ?_;rintro e w1⟨rfl,a,h1,j⟩;have n:=O h1;have t:=O (abJ.of_mv xs j);clear h1 j H;rw [← x.o];go_wp2_with fail;refine (r.o b g iv _ s.tl xs nv a n.o i).mono ?_;rintro e D⟨rfl,f,v,c,h2,k⟩;have q:=O h2;have u:=O (t.o.trans k);clear h2 k;go_wp2_with fail;go_ret2
  exact⟨rfl,f,v,c,q.o,u.o⟩
end
theorem expr_zero (wild:Bool)(N:Nat)(hN:N≤950000):abO wild 0 N:=by
 intro g iv w s xs nv lv h a;exact expr_leaf 0 (by omega) g wild iv w s xs nv lv h (by omega) (s.nx % 60) (Nat.mod_lt _ (by decide)) (.inl ⟨rfl,rfl⟩)
theorem expr_three (wild:Bool):abO wild 3 800000 :=
 expr_next wild 2 _ (by omega) (expr_next wild 1 _ (by omega) (expr_next wild 0 _ (by omega) (expr_zero wild _ (by omega)) (by decide) (by decide) (by decide)) (by decide) (by decide) (by decide)) (by decide) (by decide) (by decide)
theorem expr_four (wild:Bool):abO wild 4 750000:=expr_next wild 3 _ (by omega) (expr_three wild) (by decide) (by decide) (by decide)
end Go.Proofs.YthepmkjggfijoaaGreatDoor
