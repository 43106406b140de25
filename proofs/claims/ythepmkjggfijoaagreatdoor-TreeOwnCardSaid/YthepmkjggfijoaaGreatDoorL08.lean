/-
  A part of the proof.
-/
import Derived.Test.YthepmkjggfijoaaGreatDoorSA
import Derived.Test.YthepmkjggfijoaaGreatDoorL06
import Derived.Test.YthepmkjggfijoaaGreatDoorL07
set_option linter.all false
set_option maxRecDepth 100000
set_option maxHeartbeats 4000000
namespace Go.Proofs.YthepmkjggfijoaaGreatDoor
open Go.RowKit Mist
attribute [local go_sem] aj aH aS aB ak
theorem pl_if {ay:Bool}{d N:Nat}{E:bB→j4}(hN:N≤900000)(hd:d≤100)(X:Hid (JC ay E (N+50000) (.int .i64 (d:Int))))(b:Nat)(Q:b % 7=0){g:Nat}{iv:Value}{w:World}{s:bB}{xs:List NV}{nv lv:Value}(H:Hid (dM g ay iv w s xs nv lv))(hn:s.ns.length≤N) :
  Calls Tryz.prog 175 #[.pointer (some ⟨g,0,none⟩),.int .i64 (b:Int),.int .i64 ((d:Int)+1)] w (kK g ay iv w xs nv (dZ ay E b s)):=by
 have M:=O (iK.refl (g:=g) (w:=w) (xs:=xs) (nv:=nv));have zd:IntKind.i64.wrap ((d:Int)+1 - 1)=(d:Int):=by rw [Int.add_sub_cancel];exact IntWalk.i64_in _ ⟨by omega,by omega⟩
 have L6:Int.tmod (b:Int) 7=0:=by rw [Int.tmod_eq_emod_of_nonneg (by omega)];omega
 have S:=O (show dZ ay E b s=SH ay E s.tl by unfold dZ;simp only;rw [if_pos Q]);go_in
 go_wp2_with fail;refine (xP H M).mono ?_;clear H M;rintro e w1⟨nX,rfl,q1,H,M,-⟩;go_wp2_with fail;refine (Nk (s.nx) _).mono ?_;rintro e w2⟨x,rfl,Hx,lx,rfl⟩;clear Q;go_wp2_with fail;refine (Gq H M X (by omega)).mono ?_;clear H M;rintro e w3⟨C,c,Xj,FM,Mc,rfl,gM,V,Z,c1,Tp,H,M,-⟩;go_wp2_with fail;refine (Gq H M X (by omega)).mono ?_;clear H M;rintro e w4⟨D,i,c5,yH,GU,rfl,fq,Ji,SE,c2,a2,H,M,-⟩;go_wp2_with fail;refine (Gq H M X (by omega)).mono ?_;clear H M;rintro e w5⟨k,K,c6,Fu,QB,rfl,jX,zO,L,c4,a6,H,M,-⟩;go_wp2_with fail;refine (vD H M).mono ?_;clear H M;rintro e w6⟨a,b5,rfl,F,b2,q6,H,M,-⟩;have wI:¬ 9223372036854775807 < 2+a.length:=by omega
 have wK:¬ 9223372036854775807 < 2+a.length+c.length:=by omega
 go_wp2_with fail;refine (vD H M).mono ?_;clear H M;rintro e w7⟨f,b6,rfl,G,b3,q7,H,M,-⟩;clear wI wK;have wL:¬ 9223372036854775807 < 2+a.length:=by omega
 have wN:¬ 9223372036854775807 < 2+a.length+c.length:=by omega
 have wO:¬ 9223372036854775807 < 2+a.length+c.length+f.length:=by omega
 have wP:¬ 9223372036854775807 < 2+a.length+c.length+f.length+4:=by omega
 go_wp2_with fail;refine (vD H M).mono ?_;clear H M;rintro e w8⟨h,b7,rfl,Wz,b4,q8,H,M,-⟩;clear wL wN wO wP;have OT:¬ 9223372036854775807 < 2+a.length:=by omega
 have OU:¬ 9223372036854775807 < 2+a.length+c.length:=by omega
 have OV:¬ 9223372036854775807 < 2+a.length+c.length+f.length:=by omega
 have OY:¬ 9223372036854775807 < 2+a.length+c.length+f.length+4:=by omega
 have O4:¬ 9223372036854775807 < 2+a.length+c.length+f.length+4+h.length:=by omega
 have O6:¬ 9223372036854775807 < 2+a.length+c.length+f.length+4+h.length+i.length:=by omega
 go_wp2_with fail;refine (vD H M).mono ?_;clear H M;rintro e w9⟨j,b8,rfl,I,DT,a1,H,M,-⟩;clear OT OU OV OY O4 O6;have l:¬ 9223372036854775807 < 2+a.length:=by omega
 have m:¬ 9223372036854775807 < 2+a.length+c.length:=by omega
 have n:¬ 9223372036854775807 < 2+a.length+c.length+f.length:=by omega
 have q:¬ 9223372036854775807 < 2+a.length+c.length+f.length+4:=by omega
 have r:¬ 9223372036854775807 < 2+a.length+c.length+f.length+4+h.length:=by omega
 have u:¬ 9223372036854775807 < 2+a.length+c.length+f.length+4+h.length+i.length:=by omega
 have v:¬ 9223372036854775807 < 2+a.length+c.length+f.length+4+h.length+i.length+j.length:=by omega
 have y:¬ 9223372036854775807 < 2+a.length+c.length+f.length+4+h.length+i.length+j.length+4:=by omega
 go_wp2_with fail;refine (vD H M).mono ?_;clear H M;rintro e Qv⟨A,Y5,rfl,W,P,b9,H,M,-⟩;clear l m n q r u v y;have EK:¬ 9223372036854775807 < 2+a.length:=by omega
 have EM:¬ 9223372036854775807 < 2+a.length+c.length:=by omega
 have Gp:¬ 9223372036854775807 < 2+a.length+c.length+f.length:=by omega
 have Gy:¬ 9223372036854775807 < 2+a.length+c.length+f.length+4:=by omega
 have Yt:¬ 9223372036854775807 < 2+a.length+c.length+f.length+4+h.length:=by omega
 have a7:¬ 9223372036854775807 < 2+a.length+c.length+f.length+4+h.length+i.length:=by omega
 have a8:¬ 9223372036854775807 < 2+a.length+c.length+f.length+4+h.length+i.length+j.length:=by omega
 have a9:¬ 9223372036854775807 < 2+a.length+c.length+f.length+4+h.length+i.length+j.length+4:=by omega
 have b0:¬ 9223372036854775807 < 2+a.length+c.length+f.length+4+h.length+i.length+j.length+4+A.length:=by omega
 have b1:¬ 9223372036854775807 < 2+a.length+c.length+f.length+4+h.length+i.length+j.length+4+A.length+K.length:=by omega
 go_wp2_with fail;obtain⟨Y,J⟩:∃ Y:Bs,Hid ([105,102] ++ a ++ c ++ f ++ [116,104,101,110] ++ h ++ i ++ j ++ [101,108,115,101] ++ A ++ K=Y):=⟨_,O rfl⟩;rw [show (⟨#[105,102]⟩:ByteArray) ++ aM (a) ++ aM (c) ++ aM (f) ++ (⟨#[116,104,101,110]⟩:ByteArray) ++ aM (h) ++ aM (i) ++ aM (j) ++ (⟨#[101,108,115,101]⟩:ByteArray) ++ aM (A) ++ aM (K)=aM Y from by rw [← J.o] <;> (simp only [← ak];rfl)];have zR:Y.length≤10000000:=by rw [← J.o];simp only [aaO,List.length_cons,List.length_nil];omega
 refine (smH H M (t:=Y) (by omega)).mono ?_;clear H M;rintro e Et⟨a0,R,rfl,B,c0,H,M⟩;go_wp2_with fail;refine (SI H M [C.ix,D.ix,k.ix] (by simp) (by omega)).mono ?_;clear H M;rintro e wQ⟨Dr,uL,rfl,H,M,-⟩;go_wp2_with fail;go_ret2
 have T:=O (show SH ay E s.tl=bJ (fG ay (([],3,[105,102]) :: (bN.on a C.pc ++ (f,3,[116,104,101,110]) :: (bN.on h D.pc ++ (j,3,[101,108,115,101]) :: bN.on A k.pc))) (aO ay (aO ay (aO ay (aO ay (aO ay (k.st))))))) (fK ay (aO ay (aO ay (aO ay (aO ay (aO ay (k.st))))))) ⟨19,[],0,[C.ix,D.ix,k.ix],0⟩ from by
  unfold SH
  try simp only
  rw [gM.o,fq.o,jX.o,F.o,G.o,Wz.o,I.o,W.o] <;> rfl)
 rw [S.o,T.o]
 refine⟨?_,_,_,_,H.o,M.o⟩
 show _=Ending.returned (.tuple #[.string (aM (aN (fG ay (([],3,[105,102]) :: (bN.on a C.pc ++ (f,3,[116,104,101,110]) :: (bN.on h D.pc ++ (j,3,[101,108,115,101]) :: bN.on A k.pc))) (aO ay (aO ay (aO ay (aO ay (aO ay (k.st))))))))),.int .i64 (fK ay (aO ay (aO ay (aO ay (aO ay (aO ay (k.st))))))).id])
 have U:aN (([],3,[105,102]) :: (bN.on a C.pc ++ (f,3,[116,104,101,110]) :: (bN.on h D.pc ++ (j,3,[101,108,115,101]) :: bN.on A k.pc)))=Y:=by
  simp only [aN,qZ,bR];rw [Z.o,SE.o,L.o,← J.o] <;> simp only [List.nil_append,List.append_nil,List.append_assoc,List.cons_append]
 rw [pO,U,B.o];rfl
theorem ZQ {ay:Bool}{d N:Nat}{E:bB→j4}(hN:N≤900000)(hd:d≤100)(X:Hid (JC ay E (N+50000) (.int .i64 (d:Int))))(b:Nat)(A:b % 7=1){g:Nat}{iv:Value}{w:World}{s:bB}{xs:List NV}{nv lv:Value}(H:Hid (dM g ay iv w s xs nv lv))(hn:s.ns.length≤N) :
  Calls Tryz.prog 175 #[.pointer (some ⟨g,0,none⟩),.int .i64 (b:Int),.int .i64 ((d:Int)+1)] w (kK g ay iv w xs nv (dZ ay E b s)):=by
 have M:=O (iK.refl (g:=g) (w:=w) (xs:=xs) (nv:=nv));have zd:IntKind.i64.wrap ((d:Int)+1 - 1)=(d:Int):=by rw [Int.add_sub_cancel];exact IntWalk.i64_in _ ⟨by omega,by omega⟩
 have L6:Int.tmod (b:Int) 7=1:=by rw [Int.tmod_eq_emod_of_nonneg (by omega)];omega
 have y:=O (show dZ ay E b s=BF ay E (aY s.nx) s.tl by unfold dZ;simp only;rw [if_neg (by omega)];rw [if_pos A]);go_in
 go_wp2_with fail;refine (xP H M).mono ?_;clear H M;rintro e w1⟨nX,rfl,q1,H,M,-⟩;go_wp2_with fail;refine (Nk (s.nx) _).mono ?_;rintro e w2⟨x,rfl,I,lx,rfl⟩;rw [I.o] at y
 clear A;go_wp2_with fail;refine (Gq H M X (by omega)).mono ?_;clear H M;rintro e w3⟨l,f,Xj,FM,Mc,rfl,gM,r,O3,b4,Tp,H,M,-⟩;go_wp2_with fail;refine (Gq H M X (by omega)).mono ?_;clear H M;rintro e w4⟨i,v,b6,yH,GU,rfl,fq,Ji,T,b5,Z,H,M,-⟩;go_wp2_with fail;refine (vD H M).mono ?_;clear H M;rintro e w5⟨a,QB,rfl,J,a6,q5,H,M,-⟩;have wI:¬ 9223372036854775807 < 3+a.length:=by omega
 have wK:¬ 9223372036854775807 < 3+a.length+x.length:=by omega
 go_wp2_with fail;refine (vD H M).mono ?_;clear H M;rintro e w6⟨c,b0,rfl,m,a7,q6,H,M,-⟩;clear wI wK;have wL:¬ 9223372036854775807 < 3+a.length:=by omega
 have wN:¬ 9223372036854775807 < 3+a.length+x.length:=by omega
 have wO:¬ 9223372036854775807 < 3+a.length+x.length+c.length:=by omega
 have wP:¬ 9223372036854775807 < 3+a.length+x.length+c.length+1:=by omega
 have D:¬ 9223372036854775807 < 3+a.length+x.length+c.length+1+f.length:=by omega
 go_wp2_with fail;refine (vD H M).mono ?_;clear H M;rintro e w7⟨h,b1,rfl,n,a8,q7,H,M,-⟩;clear wL wN wO wP D;have P:¬ 9223372036854775807 < 3+a.length:=by omega
 have Q:¬ 9223372036854775807 < 3+a.length+x.length:=by omega
 have R:¬ 9223372036854775807 < 3+a.length+x.length+c.length:=by omega
 have S:¬ 9223372036854775807 < 3+a.length+x.length+c.length+1:=by omega
 have K:¬ 9223372036854775807 < 3+a.length+x.length+c.length+1+f.length:=by omega
 have L:¬ 9223372036854775807 < 3+a.length+x.length+c.length+1+f.length+h.length:=by omega
 have j:¬ 9223372036854775807 < 3+a.length+x.length+c.length+1+f.length+h.length+2:=by omega
 go_wp2_with fail;refine (vD H M).mono ?_;clear H M;rintro e w8⟨k,b2,rfl,U,a9,q8,H,M,-⟩;clear P Q R S K L j;have EK:¬ 9223372036854775807 < 3+a.length:=by omega
 have EM:¬ 9223372036854775807 < 3+a.length+x.length:=by omega
 have Gp:¬ 9223372036854775807 < 3+a.length+x.length+c.length:=by omega
 have Gy:¬ 9223372036854775807 < 3+a.length+x.length+c.length+1:=by omega
 have Yt:¬ 9223372036854775807 < 3+a.length+x.length+c.length+1+f.length:=by omega
 have a0:¬ 9223372036854775807 < 3+a.length+x.length+c.length+1+f.length+h.length:=by omega
 have a1:¬ 9223372036854775807 < 3+a.length+x.length+c.length+1+f.length+h.length+2:=by omega
 have a2:¬ 9223372036854775807 < 3+a.length+x.length+c.length+1+f.length+h.length+2+k.length:=by omega
 have a5:¬ 9223372036854775807 < 3+a.length+x.length+c.length+1+f.length+h.length+2+k.length+v.length:=by omega
 go_wp2_with fail;obtain⟨Y,u⟩:∃ Y:Bs,Hid ([108,101,116] ++ a ++ x ++ c ++ [61] ++ f ++ h ++ [105,110] ++ k ++ v=Y):=⟨_,O rfl⟩;rw [show (⟨#[108,101,116]⟩:ByteArray) ++ aM (a) ++ aM (x) ++ aM (c) ++ (⟨#[61]⟩:ByteArray) ++ aM (f) ++ aM (h) ++ (⟨#[105,110]⟩:ByteArray) ++ aM (k) ++ aM (v)=aM Y from by rw [← u.o] <;> (simp only [← ak];rfl)];have zR:Y.length≤10000000:=by rw [← u.o];simp only [aaO,List.length_cons,List.length_nil];omega
 refine (smH H M (t:=Y) (by omega)).mono ?_;clear H M;rintro e w9⟨V,b3,rfl,q,W,H,M⟩;go_wp2_with fail;refine (SI H M [l.ix,i.ix] (by simp) (by omega)).mono ?_;clear H M;rintro e Qv⟨C,B,rfl,H,M,-⟩;go_wp2_with fail;go_ret2
 have F:=O (show BF ay E x s.tl=bJ (fG ay (([],3,[108,101,116]) :: (a,1,x) :: (c,4,[61]) :: (l.pc ++ (h,3,[105,110]) :: bN.on k i.pc)) (aO ay (aO ay (aO ay (aO ay (i.st)))))) (fK ay (aO ay (aO ay (aO ay (aO ay (i.st)))))) ⟨20,x,0,[l.ix,i.ix],0⟩ from by
  unfold BF
  try simp only
  rw [gM.o,fq.o,J.o,m.o,n.o,U.o] <;> rfl)
 rw [y.o,F.o]
 refine⟨?_,_,_,_,H.o,M.o⟩
 show _=Ending.returned (.tuple #[.string (aM (aN (fG ay (([],3,[108,101,116]) :: (a,1,x) :: (c,4,[61]) :: (l.pc ++ (h,3,[105,110]) :: bN.on k i.pc)) (aO ay (aO ay (aO ay (aO ay (i.st)))))))),.int .i64 (fK ay (aO ay (aO ay (aO ay (aO ay (i.st)))))).id])
 have G:aN (([],3,[108,101,116]) :: (a,1,x) :: (c,4,[61]) :: (l.pc ++ (h,3,[105,110]) :: bN.on k i.pc))=Y:=by
  simp only [aN,qZ,bR];rw [T.o,r.o,← u.o] <;> simp only [List.nil_append,List.append_nil,List.append_assoc,List.cons_append]
 rw [pO,G,q.o];rfl
theorem Ru {ay:Bool}{d N:Nat}{E:bB→j4}(hN:N≤900000)(hd:d≤100)(X:Hid (JC ay E (N+50000) (.int .i64 (d:Int))))(b:Nat)(k:b % 7=3){g:Nat}{iv:Value}{w:World}{s:bB}{xs:List NV}{nv lv:Value}(H:Hid (dM g ay iv w s xs nv lv))(T:s.ns.length≤N) :
  Calls Tryz.prog 175 #[.pointer (some ⟨g,0,none⟩),.int .i64 (b:Int),.int .i64 ((d:Int)+1)] w (kK g ay iv w xs nv (dZ ay E b s)):=by
 have M:=O (iK.refl (g:=g) (w:=w) (xs:=xs) (nv:=nv));have zd:IntKind.i64.wrap ((d:Int)+1 - 1)=(d:Int):=by rw [Int.add_sub_cancel];exact IntWalk.i64_in _ ⟨by omega,by omega⟩
 have K:Int.tmod (b:Int) 7=3:=by rw [Int.tmod_eq_emod_of_nonneg (by omega)];omega
 have j:=O (show dZ ay E b s=qz ay E (aY s.nx) s.tl by unfold dZ;simp only;rw [if_neg (by omega)];rw [if_neg (by omega)];rw [if_neg (by omega)];rw [if_pos k]);go_in
 go_wp2_with fail;refine (xP H M).mono ?_;clear H M;rintro e w1⟨V,rfl,W,H,M,-⟩;go_wp2_with fail;refine (Nk (s.nx) _).mono ?_;rintro e w2⟨x,rfl,n,U,rfl⟩;rw [n.o] at j
 clear k;go_wp2_with fail;refine (Gq H M X (by omega)).mono ?_;clear H M;rintro e w3⟨f,a,R,D,L,rfl,r,h,P,v,Q,H,M,-⟩;have u:¬ 9223372036854775807 < 1+a.length:=by omega
 have y:¬ 9223372036854775807 < 1+a.length+1:=by omega
 go_wp2_with fail;refine (vD H M).mono ?_;clear H M;rintro e w4⟨c,G,rfl,q,t,Z,H,M,-⟩;clear u y;have B:¬ 9223372036854775807 < 1+a.length:=by omega
 have C:¬ 9223372036854775807 < 1+a.length+1:=by omega
 have I:¬ 9223372036854775807 < 1+a.length+1+c.length:=by omega
 have J:¬ 9223372036854775807 < 1+a.length+1+c.length+1:=by omega
 have S:¬ 9223372036854775807 < 1+a.length+1+c.length+1+x.length:=by omega
 go_wp2_with fail;obtain⟨Y,i⟩:∃ Y:Bs,Hid ([40] ++ a ++ [41] ++ c ++ [46] ++ x=Y):=⟨_,O rfl⟩;rw [show (⟨#[40]⟩:ByteArray) ++ aM (a) ++ (⟨#[41]⟩:ByteArray) ++ aM (c) ++ (⟨#[46]⟩:ByteArray) ++ aM (x)=aM Y from by rw [← i.o] <;> (simp only [← ak];rfl)];have zR:Y.length≤10000000:=by rw [← i.o];simp only [aaO,List.length_cons,List.length_nil];omega
 refine (SI H M [f.ix] (by simp) (by omega)).mono ?_;clear H M;rintro e w5⟨A,F,rfl,H,M,-⟩;go_wp2_with fail;go_ret2
 have l:=O (show qz ay E x s.tl=bJ (bR [40] :: (f.pc ++ [bR [41],(c,4,[46]),([],1,x)])) (aO ay (f.st)) ⟨22,x,0,[f.ix],0⟩ from by
  unfold qz
  try simp only
  rw [r.o,q.o] <;> rfl)
 rw [j.o,l.o]
 refine⟨?_,_,_,_,H.o,M.o⟩
 show _=Ending.returned (.tuple #[.string (aM (aN ((bR [40] :: (f.pc ++ [bR [41],(c,4,[46]),([],1,x)]))))),.int .i64 (aO ay (f.st)).id])
 have m:aN (bR [40] :: (f.pc ++ [bR [41],(c,4,[46]),([],1,x)]))=Y:=by
  simp only [aN,qZ,bR];rw [h.o,← i.o] <;> simp only [List.nil_append,List.append_nil,List.append_assoc,List.cons_append]
 rw [m];rfl
theorem Rw {ay:Bool}{d N:Nat}{E:bB→j4}(hN:N≤900000)(hd:d≤100)(X:Hid (JC ay E (N+50000) (.int .i64 (d:Int))))(b:Nat)(m:b % 7=4){g:Nat}{iv:Value}{w:World}{s:bB}{xs:List NV}{nv lv:Value}(H:Hid (dM g ay iv w s xs nv lv))(hn:s.ns.length≤N) :
  Calls Tryz.prog 175 #[.pointer (some ⟨g,0,none⟩),.int .i64 (b:Int),.int .i64 ((d:Int)+1)] w (kK g ay iv w xs nv (dZ ay E b s)):=by
 have M:=O (iK.refl (g:=g) (w:=w) (xs:=xs) (nv:=nv));have zd:IntKind.i64.wrap ((d:Int)+1 - 1)=(d:Int):=by rw [Int.add_sub_cancel];exact IntWalk.i64_in _ ⟨by omega,by omega⟩
 have U:Int.tmod (b:Int) 7=4:=by rw [Int.tmod_eq_emod_of_nonneg (by omega)];omega
 have n:=O (show dZ ay E b s=qC ay E s.tl by unfold dZ;simp only;rw [if_neg (by omega)];rw [if_neg (by omega)];rw [if_neg (by omega)];rw [if_neg (by omega)];rw [if_pos m]);go_in
 go_wp2_with fail;refine (xP H M).mono ?_;clear H M;rintro e w1⟨nX,rfl,q1,H,M,-⟩;go_wp2_with fail;refine (Nk (s.nx) _).mono ?_;rintro e w2⟨x,rfl,T,lx,rfl⟩;clear m;go_wp2_with fail;refine (Gq H M X (by omega)).mono ?_;clear H M;rintro e w3⟨j,a,Xj,P,V,rfl,A,k,W,D,Tp,H,M,-⟩;go_wp2_with fail;refine (Gq H M X (by omega)).mono ?_;clear H M;rintro e w4⟨c,i,I,yH,Q,rfl,y,t,SE,F,v,H,M,-⟩;have C:¬ 9223372036854775807 < 1+a.length:=by omega
 have G:¬ 9223372036854775807 < 1+a.length+2:=by omega
 have f:¬ 9223372036854775807 < 1+a.length+2+i.length:=by omega
 go_wp2_with fail;refine (vD H M).mono ?_;clear H M;rintro e w5⟨h,Z,rfl,u,B,q5,H,M,-⟩;clear C G f;have K:¬ 9223372036854775807 < 1+a.length:=by omega
 have L:¬ 9223372036854775807 < 1+a.length+2:=by omega
 have R:¬ 9223372036854775807 < 1+a.length+2+i.length:=by omega
 have S:¬ 9223372036854775807 < 1+a.length+2+i.length+h.length:=by omega
 have Yt:¬ 9223372036854775807 < 1+a.length+2+i.length+h.length+1:=by omega
 go_wp2_with fail;obtain⟨Y,l⟩:∃ Y:Bs,Hid ([40] ++ a ++ [41,91] ++ i ++ h ++ [93]=Y):=⟨_,O rfl⟩;rw [show (⟨#[40]⟩:ByteArray) ++ aM (a) ++ (⟨#[41,91]⟩:ByteArray) ++ aM (i) ++ aM (h) ++ (⟨#[93]⟩:ByteArray)=aM Y from by rw [← l.o] <;> (simp only [← ak];rfl)];have zR:Y.length≤10000000:=by rw [← l.o];simp only [aaO,List.length_cons,List.length_nil];omega
 refine (SI H M [j.ix,c.ix] (by simp) (by omega)).mono ?_;clear H M;rintro e w6⟨J,XB,rfl,H,M,-⟩;go_wp2_with fail;go_ret2
 have q:=O (show qC ay E s.tl=bJ (bR [40] :: (j.pc ++ bR [41] :: bR [91] :: (c.pc ++ [(h,4,[93])]))) (aO ay (c.st)) ⟨23,[],0,[j.ix,c.ix],0⟩ from by
  unfold qC
  try simp only
  rw [A.o,y.o,u.o] <;> rfl)
 rw [n.o,q.o]
 refine⟨?_,_,_,_,H.o,M.o⟩
 show _=Ending.returned (.tuple #[.string (aM (aN ((bR [40] :: (j.pc ++ bR [41] :: bR [91] :: (c.pc ++ [(h,4,[93])])))))),.int .i64 (aO ay (c.st)).id])
 have r:aN (bR [40] :: (j.pc ++ bR [41] :: bR [91] :: (c.pc ++ [(h,4,[93])])))=Y:=by
  simp only [aN,qZ,bR];rw [k.o,t.o,← l.o] <;> simp only [List.nil_append,List.append_nil,List.append_assoc,List.cons_append]
 rw [r];rfl
theorem Vb {ay:Bool}{d N:Nat}{E:bB→j4}(hN:N≤900000)(hd:d≤100)(X:Hid (JC ay E (N+50000) (.int .i64 (d:Int))))(y:Hid (LsC ay E N (.int .i64 ((d:Int)+1))))(b:Nat)(q:b % 7=2){g:Nat}{iv:Value}{w:World}{s:bB}{xs:List NV}{nv lv:Value}(H:Hid (dM g ay iv w s xs nv lv))(hn:s.ns.length≤N) :
  Calls Tryz.prog 175 #[.pointer (some ⟨g,0,none⟩),.int .i64 (b:Int),.int .i64 ((d:Int)+1)] w (kK g ay iv w xs nv (dZ ay E b s)):=by
 have M:=O (iK.refl (g:=g) (w:=w) (xs:=xs) (nv:=nv));have zd:IntKind.i64.wrap ((d:Int)+1 - 1)=(d:Int):=by rw [Int.add_sub_cancel];exact IntWalk.i64_in _ ⟨by omega,by omega⟩
 have L6:Int.tmod (b:Int) 7=2:=by rw [Int.tmod_eq_emod_of_nonneg (by omega)];omega
 have n:=O (show dZ ay E b s=vI ay E (aY s.nx) s.tl by unfold dZ;simp only;rw [if_neg (by omega)];rw [if_neg (by omega)];rw [if_pos q]);go_in
 go_wp2_with fail;refine (xP H M).mono ?_;clear H M;rintro e w1⟨nX,rfl,q1,H,M,-⟩;go_wp2_with fail;refine (Nk (s.nx) _).mono ?_;rintro e w2⟨x,rfl,u,lx,rfl⟩;rw [u.o] at n
 clear q;obtain⟨l,h⟩:∃ m,m=(s.tl).nx % 4:=⟨_,rfl⟩;have Q:Int.tmod ((s.tl).nx:Int) 4=(l:Int):=by rw [Int.tmod_eq_emod_of_nonneg (by omega),h];omega
 have j:=O h.symm;have C:l≤3:=by omega
 clear h;go_wp2_with fail;refine (xP H M).mono ?_;clear H M;rintro e w3⟨Mc,rfl,q3,H,M,-⟩;go_wp2_with fail;refine (lsH H M X y (m:=l) (by omega) (by omega)).mono ?_;clear H M;rintro e w4⟨f,c,S,c4,L,yH,V,rfl,F,v,SE,B,J,D,k,H,M,-⟩;have I:¬ 9223372036854775807 < x.length+1:=by omega
 have K:¬ 9223372036854775807 < x.length+1+c.length:=by omega
 go_wp2_with fail;refine (vD H M).mono ?_;clear H M;rintro e w5⟨a,QB,rfl,A,G,q5,H,M,R⟩
 replace k:=kp R k
 clear R;clear I K;have T:¬ 9223372036854775807 < x.length+1:=by omega
 have U:¬ 9223372036854775807 < x.length+1+c.length:=by omega
 have W:¬ 9223372036854775807 < x.length+1+c.length+a.length:=by omega
 have Z:¬ 9223372036854775807 < x.length+1+c.length+a.length+1:=by omega
 go_wp2_with fail;obtain⟨Y,i⟩:∃ Y:Bs,Hid (x ++ [40] ++ c ++ a ++ [41]=Y):=⟨_,O rfl⟩;rw [show aM (x) ++ (⟨#[40]⟩:ByteArray) ++ aM (c) ++ aM (a) ++ (⟨#[41]⟩:ByteArray)=aM Y from by rw [← i.o] <;> (simp only [← ak];rfl)];have zR:Y.length≤10000000:=by rw [← i.o];simp only [aaO,List.length_cons,List.length_nil];omega
 refine (Wd H M k (by omega)).mono ?_;clear H M;rintro e w6⟨P,XB,rfl,H,M,-⟩;go_wp2_with fail;go_ret2
 have r:=O (show vI ay E x s.tl=bJ (([],1,x) :: bR [40] :: (f.pc ++ [(a,4,[41])])) (aO ay (f.st)) ⟨21,x,0,f.ix,0⟩ from by
  unfold vI
  try simp only
  rw [j.o,F.o,A.o] <;> rfl)
 rw [n.o,r.o]
 refine⟨?_,_,_,_,H.o,M.o⟩
 show _=Ending.returned (.tuple #[.string (aM (aN ((([],1,x) :: bR [40] :: (f.pc ++ [(a,4,[41])]))))),.int .i64 (aO ay (f.st)).id])
 have t:aN (([],1,x) :: bR [40] :: (f.pc ++ [(a,4,[41])]))=Y:=by
  simp only [aN,qZ,bR];rw [v.o,← i.o] <;> simp only [List.nil_append,List.append_nil,List.append_assoc,List.cons_append]
 rw [t];rfl
theorem Rt {ay:Bool}{d N:Nat}{E:bB→j4}(hN:N≤900000)(hd:d≤100)(X:Hid (JC ay E (N+50000) (.int .i64 (d:Int))))(u:Hid (LsC ay E N (.int .i64 ((d:Int)+1))))(b:Nat)(n:b % 7=5){g:Nat}{iv:Value}{w:World}{s:bB}{xs:List NV}{nv lv:Value}(H:Hid (dM g ay iv w s xs nv lv))(hn:s.ns.length≤N) :
  Calls Tryz.prog 175 #[.pointer (some ⟨g,0,none⟩),.int .i64 (b:Int),.int .i64 ((d:Int)+1)] w (kK g ay iv w xs nv (dZ ay E b s)):=by
 have M:=O (iK.refl (g:=g) (w:=w) (xs:=xs) (nv:=nv));have zd:IntKind.i64.wrap ((d:Int)+1 - 1)=(d:Int):=by rw [Int.add_sub_cancel];exact IntWalk.i64_in _ ⟨by omega,by omega⟩
 have Z:Int.tmod (b:Int) 7=5:=by rw [Int.tmod_eq_emod_of_nonneg (by omega)];omega
 have q:=O (show dZ ay E b s=qc ay E s.tl by unfold dZ;simp only;rw [if_neg (by omega)];rw [if_neg (by omega)];rw [if_neg (by omega)];rw [if_neg (by omega)];rw [if_neg (by omega)];rw [if_pos n]);go_in
 go_wp2_with fail;refine (xP H M).mono ?_;clear H M;rintro e w1⟨nX,rfl,q1,H,M,-⟩;go_wp2_with fail;refine (Nk (s.nx) _).mono ?_;rintro e w2⟨x,rfl,V,lx,rfl⟩;clear n;obtain⟨f,i⟩:∃ m,m=(s.tl).nx % 4:=⟨_,rfl⟩;have L:Int.tmod ((s.tl).nx:Int) 4=(f:Int):=by rw [Int.tmod_eq_emod_of_nonneg (by omega),i];omega
 have k:=O i.symm;have B:f≤3:=by omega
 clear i;have K:IntKind.i64.wrap (1+(f:Int))=((1+f:Nat):Int):=by rw [IntWalk.i64_in _ (by omega)];omega
 go_wp2_with fail;refine (xP H M).mono ?_;clear H M;rintro e w3⟨Mc,rfl,q3,H,M,-⟩;go_wp2_with fail;refine (lsH H M X u (m:=1+f) (by omega) (by omega)).mono ?_;clear H M;rintro e w4⟨c,h,P,c4,I,yH,T,rfl,D,W,y,A,G,C,l,H,M,-⟩;go_wp2_with fail;refine (vD H M).mono ?_;clear H M;rintro e w5⟨a,QB,rfl,v,F,q5,H,M,R⟩
 replace l:=kp R l
 clear R;have Q:¬ 9223372036854775807 < 1+a.length:=by omega
 have S:¬ 9223372036854775807 < 1+a.length+h.length:=by omega
 have U:¬ 9223372036854775807 < 1+a.length+h.length+1:=by omega
 go_wp2_with fail;obtain⟨Y,j⟩:∃ Y:Bs,Hid ([91] ++ a ++ h ++ [93]=Y):=⟨_,O rfl⟩;rw [show (⟨#[91]⟩:ByteArray) ++ aM (a) ++ aM (h) ++ (⟨#[93]⟩:ByteArray)=aM Y from by rw [← j.o] <;> (simp only [← ak];rfl)];have zR:Y.length≤10000000:=by rw [← j.o];simp only [aaO,List.length_cons,List.length_nil];omega
 refine (Wd H M l (by omega)).mono ?_;clear H M;rintro e w6⟨J,XB,rfl,H,M,-⟩;go_wp2_with fail;go_ret2
 have r:=O (show qc ay E s.tl=bJ (bR [91] :: (bN.on a c.pc ++ [bR [93]])) (aO ay (c.st)) ⟨26,[],0,c.ix,0⟩ from by
  unfold qc
  try simp only
  rw [k.o,D.o,v.o] <;> rfl)
 rw [q.o,r.o]
 refine⟨?_,_,_,_,H.o,M.o⟩
 show _=Ending.returned (.tuple #[.string (aM (aN ((bR [91] :: (bN.on a c.pc ++ [bR [93]]))))),.int .i64 (aO ay (c.st)).id])
 have t:aN (bR [91] :: (bN.on a c.pc ++ [bR [93]]))=Y:=by
  simp only [aN,qZ,bR];rw [y.o (by omega),← j.o] <;> simp only [List.nil_append,List.append_nil,List.append_assoc,List.cons_append]
 rw [t];rfl
theorem Gb (s:bB)(n:Nd):(s.put n).ns.length=s.ns.length+1:=aaO
theorem aas (ay:Bool)(d N:Nat)(hN:N≤900000)(hE:Xr ay d (N+50000))(hL:NC d≤100000)(hC:SC d≤10000)(b:Nat)(hb:b % 7=6)(g:Nat)(iv:Value)(w:World)(s:bB)(xs:List NV)(nv lv:Value)(h:dM g ay iv w s xs nv lv)(hn:s.ns.length≤N) :
  Calls Tryz.prog 175 #[.pointer (some ⟨g,0,none⟩),.int .i64 (b:Int),.int .i64 ((d:Int)+1)] w (kK g ay iv w xs nv (dZ ay (bA ay d) b s)):=by
 have E:=O h;have P:=O (iK.refl (g:=g) (w:=w) (xs:=xs) (nv:=nv));clear h;have BE:=O (ko ay d);have a6:=O hE;have d3:=zX d;have zd:IntKind.i64.wrap ((d:Int)+1 - 1)=(d:Int):=by rw [Int.add_sub_cancel];exact IntWalk.i64_in _ ⟨by omega,by omega⟩
 clear hE;have L6:Int.tmod (b:Int) 7=6:=by rw [Int.tmod_eq_emod_of_nonneg (by omega)];omega
 have HB:=O (show dZ ay (bA ay d) b s=BI ay (bA ay d) (aY s.nx) b s.tl by unfold dZ;simp only;rw [if_neg (by omega),if_neg (by omega),if_neg (by omega),if_neg (by omega),if_neg (by omega),if_neg (by omega)]);obtain⟨q,hq⟩:∃ q,q=b % 3:=⟨_,rfl⟩;have zq:Int.tmod (b:Int) 3=(q:Int):=by rw [Int.tmod_eq_emod_of_nonneg (by omega),hq];omega
 obtain⟨m,hm⟩:∃ m,m=1+q:=⟨_,rfl⟩;have d0:IntKind.i64.wrap (1+(q:Int))=(m:Int):=by rw [IntWalk.i64_in _ (by omega)];omega
 have d4:m≤3:=by omega
 have b7:=O (show m=1+b % 3 by rw [hm,hq]);clear hm hq;obtain⟨j0,a9,b3,b4,b5⟩:=info_parts gN;have a8:=E.o.lt;have lx:=iR s.nx;obtain⟨x,hx⟩:∃ x,x=aY s.nx:=⟨_,rfl⟩;rw [← hx] at lx HB
 have HX:=O hx;clear hb;have d6:s.tl.ns.length=s.ns.length:=rfl;go_in
 go_wp2_with fail;refine (bV g ay _ _ (s) _ _ _ E.o).mono ?_;rintro e w1⟨rfl,nX,h,m⟩;have F:=O h;have K:=O (P.o.BG m);clear h m E P;go_wp2_with fail;refine (fu s.nx _).mono ?_;rintro e w9⟨rfl,rfl⟩;rw [← hx];clear hx;have b1:=K.o.size;have Xp:=O (jA.empty (w0:=w) F.o rfl b1);have HH:=O (F.o.alloc (.cells #[] 3));have MM:=O (K.o.dD (o:=.cells #[] 3));clear F K;go_wp2_with fail;go_loopw [29,30,31] (fun sv l0 i wr=>∃ (k:Nat) (r:oG) (A:Option Addr) (c:Nat) (R:List NV) (gW nX:Value),k≤m∧i=.int .i64 k∧sv=.string (aM (aN r.pc))∧l0=.slice A r.ix.length c∧Hid (r.ix.length=k)∧(aN r.pc).length≤k * 100020∧r.st.ns.length≤N+k * 10001∧Hid (dQ ay (bA ay d) (m - k) r=dQ ay (bA ay d) m ⟨[],[],s.tl⟩)∧Hid (jA w wr R (.slice A r.ix.length c) r.ix)∧Hid (dM g ay iv wr r.st R gW nX)∧Hid (iK g w xs nv wr R gW)) (fun _ _ i _=>m - (intOf i).toNat)
 case atStart=>exact⟨0,⟨[],[],s.tl⟩,_,_,xs,nv,nX,aaL _,rfl,rfl,rfl,O rfl,by simp [aN],(by first|(simpa using hn)|(show s.tl.ns.length≤_;omega)),O rfl,Xp,HH,MM⟩
 case round =>
  clear Xp HH MM;obtain⟨wo,rfl⟩:∃ wo:World,wo=wr:=⟨_,rfl⟩;obtain⟨k,r,A,c,R,gW,d7,hk,rfl,rfl,rfl,I,V,d5,HR,j,E,P⟩:=hrel;by_cases Q:k < m
  ·obtain⟨mm,b0⟩:∃ mm,m - k=mm+1:=⟨m - k - 1,by omega⟩;have Fa:m - (k+1)=mm:=by omega
   rw [b0] at HR
   have U1:=O Fa;clear b0 Fa;obtain⟨X,hX⟩:∃ X,X=aN r.pc:=⟨_,rfl⟩;rw [← hX] at V ⊢
   have a7:=O hX;clear hX;by_cases a5:k=0
   ·subst a5;have W:r.ix=[]:=List.eq_nil_of_length_eq_zero I.o;have zo:=O (show dQ ay (bA ay d) (mm+1) r=dQ ay (bA ay d) mm ⟨r.pc ++ (([],1,aY r.st.nx) :: bR [58] :: (bA ay d r.st.tl).pc),r.ix ++ [(bA ay d r.st.tl).st.id],(bA ay d r.st.tl).st.put ⟨25,aY r.st.nx,0,[(bA ay d r.st.tl).ix],0⟩⟩ by rw [dQ];simp only [if_pos W]);clear W;go_wp2_with fail;refine (bV g ay _ _ (r.st) _ _ _ E.o).mono ?_;rintro e w1⟨rfl,nX,h,m⟩;have F:=O h;have K:=O (P.o.BG m)
    replace j:=O (j.o.mv E.o m)
    clear h m E P;go_wp2_with fail;refine (fu (r.st).nx _).mono ?_;rintro e Sn⟨rfl,rfl⟩;have ly:=iR (r.st).nx;obtain⟨y,hy⟩:∃ y,y=aY (r.st).nx:=⟨_,rfl⟩;rw [← hy] at ly zo ⊢
    clear hy;have c8:(r.st).tl.ns.length=r.st.ns.length:=rfl;go_wp2_with fail;refine (a6.o g _ _ ((r.st).tl) _ _ _ F.o (by first | omega|(simp only [aF,bW];omega))).mono ?_;rintro e w2⟨rfl,e1,Qu,Ap,h,m⟩;have M:=O h;have U:=O (K.o.trans m)
    replace j:=O (j.o.mw F.o m)
    clear h m F K;have OB:=BE.o.text ((r.st).tl);have SG:=BE.o.nodes ((r.st).tl);obtain⟨t,a4⟩:∃ a,a=bA ay d ((r.st).tl):=⟨_,rfl⟩;rw [← a4] at M OB SG ⊢
    obtain⟨T2,E5⟩:∃ T,T=aN t.pc:=⟨_,rfl⟩;have d8:T2.length≤100000:=by rw [E5];exact Nat.le_trans OB hL
    rw [← E5];have b6:=O a4;have b9:=O E5;clear a4 E5 OB
    (try simp only [aF,bW] at SG)
    rw [← b6.o] at zo
    have c1:¬ 9223372036854775807 < X.length+y.length:=by omega
    have c2:¬ 9223372036854775807 < X.length+y.length+1:=by omega
    have c4:¬ 9223372036854775807 < X.length+y.length+1+T2.length:=by omega
    have Ar:=O (j.o.apart (n:=1) (c:=1) (aaJ _))
    replace j:=O (j.o.alloc (.cells (intCells [t.ix]).toArray 3))
    have SQ:=O (Mx w2 [t.ix]);have HK:=O (M.o.alloc (.cells (intCells [t.ix]).toArray 3));have SS:=O (U.o.dD (o:=.cells (intCells [t.ix]).toArray 3));have l:=U.o.size;clear M U;go_wp2_with fail;obtain⟨Y,D⟩:∃ Y:Bs,Y=X ++ y ++ [58] ++ T2:=⟨_,rfl⟩;rw [show aM (X ++ y) ++ (⟨#[58]⟩:ByteArray) ++ aM (T2)=aM Y from by rw [D] <;> (simp only [← ak];rfl)];have zR:Y.length≤10000000:=by rw [D];simp only [aaO,List.length_cons,List.length_nil];omega
    have HY:=O D;clear D;refine (dG g ay _ _ (t.st) _ _ _ HK.o 25 y 0 _ [t.ix] SQ.o (by first | omega|(simp only [aF,bW];omega))).mono ?_;rintro e w3⟨rfl,FM,h,m⟩
    replace j:=O (j.o.put HK.o h m Ar.o)
    have H3:=O h;have M3:=O (SS.o.uh (x:=(⟨25,y,0,[t.ix],0⟩,(.slice (some ⟨w2.heap.size,0,none⟩) 1 1))) m (BQ l));clear h m;have H:=O (j.o.alloc (.cells #[.int .i64 (bB.id (t.st))] 3));have HA:=O (H3.o.alloc (.cells #[.int .i64 (bB.id (t.st))] 3));have MA:=O (M3.o.dD (o:=(.cells #[.int .i64 (bB.id (t.st))] 3)));have l:=MA.o.size;have c7:r.ix.length≤3:=by have:=I.o;omega
    go_wp2_with (at_builtin;go_loud (refine wpList_append_lies _ rfl (.tmp 272) (.tmp 279) 24 rfl 0 3 j0 (.int .i64 0) 1 8 Tryz.underlying24 a9 b3 b4 b5 rfl (by decide) _ r.ix.length (intCells r.ix) rfl H.o.row ⟨w3.heap.size,0,none⟩ 1 1 [.int .i64 (bB.id (t.st))] rfl rfl (cell_one_new _ _ _) (by simp [Value.oneCell']) (by omega) (by simp only [maxLen];omega) (by omega) (aaL _) _ rfl ?_);intro GA AJ Tx v f L Q;have Xl:=O (H.o.grow HA.o v L l);have Ww:=O (HA.o.grow H.o f (fun b hb=>aaK (aaW a8 (H.o.lo b hb))));have Xn:=O (MA.o.grow H.o f);clear v f L Q)
    clear H HA MA l j H3 M3;have J:=O (show Y=aN (r.pc ++ (([],1,y) :: bR [58] :: t.pc)) by rw [qZ,HY.o,← a7.o];simp only [aN,bR];rw [b9.o];simp only [List.nil_append,List.append_nil,List.append_assoc,List.cons_append]);exact⟨⟨0+1,⟨r.pc ++ (([],1,y) :: bR [58] :: t.pc),r.ix ++ [bB.id (t.st)],(t.st).put ⟨25,y,0,[t.ix],0⟩⟩,_,_,_,_,_,by omega,by go_num,congrArg Value.string (congrArg aM J.o),by rw [aaO];rfl,O (by rw [aaO,I.o];rfl),by rw [← J.o,HY.o];simp only [aaO,List.length_cons,List.length_nil];omega,by show (bB.put _ _).ns.length≤_;rw [Gb];omega,O (by show dQ ay (bA ay d) (m - (0+1)) _=_;rw [U1.o,← zo.o,HR.o]),by rw [aaO];exact Xl,Ww,Xn⟩,by simp [intOf];omega⟩
   ·have b2:r.ix ≠ []:=fun h=>a5 (by rw [← I.o,h];rfl)
    have zo:=O (show dQ ay (bA ay d) (mm+1) r=dQ ay (bA ay d) mm ⟨r.pc ++ ((bG ay r.st,4,[44]) :: ([],1,aY (aO ay r.st).nx) :: bR [58] :: (bA ay d (aO ay r.st).tl).pc),r.ix ++ [(bA ay d (aO ay r.st).tl).st.id],(bA ay d (aO ay r.st).tl).st.put ⟨25,aY (aO ay r.st).nx,0,[(bA ay d (aO ay r.st).tl).ix],0⟩⟩ by rw [dQ];simp only [if_neg b2]);have d1:(0:Int) < (k:Int):=by omega
    clear b2 a5;go_wp2_with fail;refine (dF g ay _ _ (r.st) _ _ _ E.o).mono ?_;rintro e w1⟨rfl,nX,h,m⟩;have F:=O h;have K:=O (P.o.BG m)
    replace j:=O (j.o.mv E.o m)
    clear h m E P;have a1:=eD ay (r.st);obtain⟨C,B⟩:∃ G,G=bG ay (r.st):=⟨_,rfl⟩;rw [← B] at a1 ⊢
    have a0:=O B;clear B;rw [← a0.o] at zo
    have c5:¬ 9223372036854775807 < C.length+1:=by omega
    have c6:¬ 9223372036854775807 < X.length+(C.length+1):=by omega
    go_wp2_with fail;obtain⟨Z,hZ⟩:∃ Z:Bs,Z=X ++ (C ++ [44]):=⟨_,rfl⟩;rw [show (aM X ++ (aM C ++ (⟨#[44]⟩:ByteArray)))=aM Z from by rw [hZ,← ak,← ak];rfl];have d2:Z.length≤X.length+9:=by rw [hZ];simp only [aaO,List.length_cons,List.length_nil];omega
    have HZ:=O hZ;clear hZ c5 c6;refine (bV g ay _ _ (aO ay (r.st)) _ _ _ F.o).mono ?_;rintro e w2⟨rfl,Ap,h,m⟩;have M:=O h;have U:=O (K.o.BG m)
    replace j:=O (j.o.mv F.o m)
    clear h m F K;go_wp2_with fail;refine (fu ((aO ay r.st)).nx _).mono ?_;rintro e Sn⟨rfl,rfl⟩;have ly:=iR ((aO ay r.st)).nx;obtain⟨y,hy⟩:∃ y,y=aY ((aO ay r.st)).nx:=⟨_,rfl⟩;rw [← hy] at ly zo ⊢
    clear hy;have c8:((aO ay r.st)).tl.ns.length=r.st.ns.length:=by show (aO ay r.st).ns.length=_;rw [aF]
    go_wp2_with fail;refine (a6.o g _ _ ((aO ay (r.st)).tl) _ _ _ M.o (by first | omega|(simp only [aF,bW];omega))).mono ?_;rintro e w3⟨rfl,Xj,FM,Mc,h,m⟩;have H3:=O h;have M3:=O (U.o.trans m)
    replace j:=O (j.o.mw M.o m)
    clear h m M U;have XQ:=BE.o.text ((aO ay (r.st)).tl);have Tp:=BE.o.nodes ((aO ay (r.st)).tl);obtain⟨u,FK⟩:∃ a,a=bA ay d ((aO ay (r.st)).tl):=⟨_,rfl⟩;rw [← FK] at H3 XQ Tp ⊢
    obtain⟨T3,TK⟩:∃ T,T=aN u.pc:=⟨_,rfl⟩;have e0:T3.length≤100000:=by rw [TK];exact Nat.le_trans XQ hL
    rw [← TK];have gM:=O FK;have c0:=O TK;clear FK TK XQ
    (try simp only [aF,bW] at Tp)
    rw [← gM.o] at zo
    have c1:¬ 9223372036854775807 < Z.length+y.length:=by omega
    have c2:¬ 9223372036854775807 < Z.length+y.length+1:=by omega
    have c4:¬ 9223372036854775807 < Z.length+y.length+1+T3.length:=by omega
    have Ar:=O (j.o.apart (n:=1) (c:=1) (aaJ _))
    replace j:=O (j.o.alloc (.cells (intCells [u.ix]).toArray 3))
    have SQ:=O (Mx w3 [u.ix]);have HK:=O (H3.o.alloc (.cells (intCells [u.ix]).toArray 3));have SS:=O (M3.o.dD (o:=.cells (intCells [u.ix]).toArray 3));have l:=M3.o.size;clear H3 M3;go_wp2_with fail;obtain⟨Y,D⟩:∃ Y:Bs,Y=Z ++ y ++ [58] ++ T3:=⟨_,rfl⟩;rw [show aM (Z ++ y) ++ (⟨#[58]⟩:ByteArray) ++ aM (T3)=aM Y from by rw [D] <;> (simp only [← ak];rfl)];have zR:Y.length≤10000000:=by rw [D];simp only [aaO,List.length_cons,List.length_nil];omega
    have HY:=O D;clear D;refine (dG g ay _ _ (u.st) _ _ _ HK.o 25 y 0 _ [u.ix] SQ.o (by first | omega|(simp only [aF,bW];omega))).mono ?_;rintro e w4⟨rfl,yH,h,m⟩
    replace j:=O (j.o.put HK.o h m Ar.o)
    have H4:=O h;have M4:=O (SS.o.uh (x:=(⟨25,y,0,[u.ix],0⟩,(.slice (some ⟨w3.heap.size,0,none⟩) 1 1))) m (BQ l));clear h m;have H:=O (j.o.alloc (.cells #[.int .i64 (bB.id (u.st))] 3));have HA:=O (H4.o.alloc (.cells #[.int .i64 (bB.id (u.st))] 3));have MA:=O (M4.o.dD (o:=(.cells #[.int .i64 (bB.id (u.st))] 3)));have l:=MA.o.size;have c7:r.ix.length≤3:=by have:=I.o;omega
    go_wp2_with (at_builtin;go_loud (refine wpList_append_lies _ rfl (.tmp 272) (.tmp 279) 24 rfl 0 3 j0 (.int .i64 0) 1 8 Tryz.underlying24 a9 b3 b4 b5 rfl (by decide) _ r.ix.length (intCells r.ix) rfl H.o.row ⟨w4.heap.size,0,none⟩ 1 1 [.int .i64 (bB.id (u.st))] rfl rfl (cell_one_new _ _ _) (by simp [Value.oneCell']) (by omega) (by simp only [maxLen];omega) (by omega) (aaL _) _ rfl ?_);intro GA AJ Tx v f L Q;have Xl:=O (H.o.grow HA.o v L l);have Ww:=O (HA.o.grow H.o f (fun b hb=>aaK (aaW a8 (H.o.lo b hb))));have Xn:=O (MA.o.grow H.o f);clear v f L Q)
    clear H HA MA l j H4 M4;have J:=O (show Y=aN (r.pc ++ ((C,4,[44]) :: ([],1,y) :: bR [58] :: u.pc)) by rw [qZ,HY.o,HZ.o,← a7.o];simp only [aN,bR];rw [c0.o];simp only [List.nil_append,List.append_nil,List.append_assoc,List.cons_append]);exact⟨⟨k+1,⟨r.pc ++ ((C,4,[44]) :: ([],1,y) :: bR [58] :: u.pc),r.ix ++ [bB.id (u.st)],(u.st).put ⟨25,y,0,[u.ix],0⟩⟩,_,_,_,_,_,by omega,by go_num,congrArg Value.string (congrArg aM J.o),by rw [aaO];rfl,O (by rw [aaO,I.o];rfl),by rw [← J.o,HY.o];simp only [aaO,List.length_cons,List.length_nil];omega,by show (bB.put _ _).ns.length≤_;rw [Gb];omega,O (by show dQ ay (bA ay d) (m - (k+1)) _=_;rw [U1.o,← zo.o,HR.o]),by rw [aaO];exact Xl,Ww,Xn⟩,by simp [intOf];omega⟩
  ·obtain rfl:k=m:=by omega
   have b8:=O (show dQ ay (bA ay d) k ⟨[],[],s.tl⟩=r by rw [← HR.o,Nat.sub_self];rfl);clear HR;have c9:(aN r.pc).length≤400000:=by omega
   obtain⟨S,hS⟩:∃ S,S=aN r.pc:=⟨_,rfl⟩;rw [← hS] at c9 ⊢
   have HS:=O hS;clear hS V;have qF:¬ 9223372036854775807 < x.length+1:=by omega
   have tq:¬ 9223372036854775807 < x.length+1+S.length:=by omega
   go_wp2_with fail;refine (dF g ay _ _ (r.st) _ _ _ E.o).mono ?_;rintro e w1⟨rfl,nX,h,m⟩;have F:=O h;have K:=O (P.o.BG m)
   replace j:=O (j.o.mv E.o m)
   clear h m E P;have a1:=eD ay (r.st);obtain⟨C,B⟩:∃ G,G=bG ay (r.st):=⟨_,rfl⟩;rw [← B] at a1 ⊢
   have a0:=O B;clear B;clear qF tq;have EK:¬ 9223372036854775807 < x.length+1:=by omega
   have EM:¬ 9223372036854775807 < x.length+1+S.length:=by omega
   have Gp:¬ 9223372036854775807 < x.length+1+S.length+C.length:=by omega
   have Gy:¬ 9223372036854775807 < x.length+1+S.length+C.length+1:=by omega
   go_wp2_with fail;obtain⟨Y,D⟩:∃ Y:Bs,Y=x ++ [123] ++ S ++ C ++ [125]:=⟨_,rfl⟩;rw [show aM (x) ++ (⟨#[123]⟩:ByteArray) ++ aM (S) ++ aM (C) ++ (⟨#[125]⟩:ByteArray)=aM Y from by rw [D] <;> (simp only [← ak];rfl)];have zR:Y.length≤10000000:=by rw [D];simp only [aaO,List.length_cons,List.length_nil];omega
   have HY:=O D;clear D;refine (dG g ay _ _ (aO ay (r.st)) _ _ _ F.o 24 x 0 _ r.ix j.o.row (by first | omega|(simp only [aF,bW];omega))).mono ?_;rintro e w2⟨rfl,Qu,h,m⟩;have M:=O h;have U:=O (K.o.uh (x:=(⟨24,x,0,r.ix,0⟩,(.slice A r.ix.length c))) m (fun b hb=>j.o.lo b hb));clear h m;go_wp2_with fail;go_ret2
   rw [HB.o]
   have HF:=O (show BI ay (bA ay d) x b s.tl=bJ (([],1,x) :: bR [123] :: (r.pc ++ [(C,4,[125])])) (aO ay (r.st)) ⟨24,x,0,r.ix,0⟩ from by
    unfold BI;simp only
    rw [← b7.o,b8.o,← a0.o])
   rw [HF.o]
   refine⟨?_,_,_,_,M.o,U.o⟩
   show _=Ending.returned (.tuple #[.string (aM (aN (([],1,x) :: bR [123] :: (r.pc ++ [(C,4,[125])])))),.int .i64 (aO ay (r.st)).id])
   have HI:=(show aN (([],1,x) :: bR [123] :: (r.pc ++ [(C,4,[125])]))=Y from by
    simp only [aN,qZ,bR];rw [HY.o,← HS.o];simp only [List.nil_append,List.append_nil,List.append_assoc,List.cons_append])
   rw [HI];rfl
section
variable (ay:Bool) (d N:Nat) (hN:N≤900000) (hE:Xr ay d (N+50000)) (hL:NC d≤100000) (hC:SC d≤10000)
include hN hE hL hC
theorem Wu:JC ay (bA ay d) (N+50000) (.int .i64 (d:Int)):=⟨hE,CV (ko ay d) hL hC,fun s=>gX ay d s⟩
theorem Y4:LsC ay (bA ay d) N (.int .i64 ((d:Int)+1)):=fun m a g iv w s xs nv lv h b=>Bf ay d N hN hE hL hC m a g iv w s xs nv lv h b
theorem pl_op (hd:d≤100)(b:Nat)(f:b < 150)(g:Nat)(iv:Value)(w:World)(s:bB)(xs:List NV)(nv lv:Value)(h:dM g ay iv w s xs nv lv)(c:s.ns.length≤N) :
  Calls Tryz.prog 174 #[.pointer (some ⟨g,0,none⟩),.int .i64 (b:Int),.int .i64 ((d:Int)+1)] w (kK g ay iv w xs nv (Ba ay (bA ay d) b s)):=by
 have X:=O (Wu ay d N hN hE hL hC);by_cases a:b < 75
 ·by_cases e:b % 2=0
  ·exact aar hN hd X b a e (O h) c
  ·exact ZR hN hd X b a e (O h) c
 ·exact Zw hN hd X b a f (O h) c
theorem Ve (hd:d≤100)(b:Nat)(g:Nat)(iv:Value)(w:World)(s:bB)(xs:List NV)(nv lv:Value)(h:dM g ay iv w s xs nv lv)(c:s.ns.length≤N) :
  Calls Tryz.prog 175 #[.pointer (some ⟨g,0,none⟩),.int .i64 (b:Int),.int .i64 ((d:Int)+1)] w (kK g ay iv w xs nv (dZ ay (bA ay d) b s)):=by
 have X:=O (Wu ay d N hN hE hL hC);have e:=O (Y4 ay d N hN hE hL hC);have h7:b % 7 < 7:=Nat.mod_lt _ (by decide);obtain a | a | a | a | a | a | a:b % 7=0∨b % 7=1∨b % 7=2∨b % 7=3∨b % 7=4∨b % 7=5∨b % 7=6:=by omega
 ·exact pl_if hN hd X b a (O h) c
 ·exact ZQ hN hd X b a (O h) c
 ·exact Vb hN hd X e b a (O h) c
 ·exact Ru hN hd X b a (O h) c
 ·exact Rw hN hd X b a (O h) c
 ·exact Rt hN hd X e b a (O h) c
 ·exact aas ay d N hN hE hL hC b a g iv w s xs nv lv h c
theorem uR (hd:d≤100):Xr ay (d+1) N:=by
 intro g i w s a l lv h G;have F:=zX d;by_cases h60:s.nx < 60
 ·rw [show bA ay (d+1) s=kY s.nx s.tl by rw [bA,if_pos h60]];exact BO ((d+1:Nat):Int) (by omega) g ay i w s a l lv h (by omega) s.nx h60 (.inr ⟨by omega,rfl⟩)
 have f:s.tl.ns.length≤N:=G;have D:=O (pl_op ay d N hN hE hL hC hd);have u:=O (Ve ay d N hN hE hL hC hd);clear hE;have H:=O h;clear h;obtain⟨b,n⟩:∃ b,b=s.nx:=⟨_,rfl⟩;have E:=O (show bA ay (d+1) s=if b < 150 then Ba ay (bA ay d) b s.tl else dZ ay (bA ay d) b s.tl by rw [bA,if_neg h60,n]);rw [E.o];rw [← n] at h60
 have C:=O n;clear n;have K:¬ (b:Int) < 20:=by omega
 have L:¬ (b:Int) < 30:=by omega
 have M:¬ (b:Int) < 60:=by omega
 have P:¬ ((d:Int)+1≤0):=by omega
 by_cases y:b < 150
 ·rw [if_pos y];have m:(b:Int) < 150:=by omega
  rw [show ((d+1:Nat):Int)=(d:Int)+1 by omega];go_enter Tryz.func117,Tryz.ntmps117
  go_wp2_with fail;refine (bV g ay i _ s a l lv H.o).mono ?_;rintro e I⟨rfl,B,h1,j⟩;have r:=O h1;have v:=O (iK.FP a j);clear h1 j H;rw [← C.o];go_wp2_with fail;refine (D.o b y g i _ s.tl a l B r.o f).mono ?_;rintro e J⟨rfl,c,A,q,h2,k⟩;have t:=O h2;have x:=O (v.o.trans k);clear h2 k;go_wp2_with fail;go_ret2
  exact⟨rfl,c,A,q,t.o,x.o⟩
 ·rw [if_neg y];have m:¬ (b:Int) < 150:=by omega
  rw [show ((d+1:Nat):Int)=(d:Int)+1 by omega];go_enter Tryz.func117,Tryz.ntmps117
  go_wp2_with fail;refine (bV g ay i _ s a l lv H.o).mono ?_;rintro e I⟨rfl,B,h1,j⟩;have r:=O h1;have v:=O (iK.FP a j);clear h1 j H;rw [← C.o];go_wp2_with fail;refine (u.o b g i _ s.tl a l B r.o f).mono ?_;rintro e J⟨rfl,c,A,q,h2,k⟩;have t:=O h2;have x:=O (v.o.trans k);clear h2 k;go_wp2_with fail;go_ret2
  exact⟨rfl,c,A,q,t.o,x.o⟩
end
theorem LD (ay:Bool)(N:Nat)(hN:N≤950000):Xr ay 0 N:=by
 intro g a w s c b lv h e;exact BO 0 (by omega) g ay a w s c b lv h (by omega) (s.nx % 60) (Nat.mod_lt _ (by decide)) (.inl ⟨rfl,rfl⟩)
theorem vY (ay:Bool):Xr ay 3 800000 :=
 uR ay 2 _ (by omega) (uR ay 1 _ (by omega) (uR ay 0 _ (by omega) (LD ay _ (by omega)) (by decide) (by decide) (by decide)) (by decide) (by decide) (by decide)) (by decide) (by decide) (by decide)
theorem Lr (ay:Bool):Xr ay 4 750000:=uR ay 3 _ (by omega) (vY ay) (by decide) (by decide) (by decide)
end Go.Proofs.YthepmkjggfijoaaGreatDoor
