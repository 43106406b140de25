/-
  A part of the proof.
-/
import Derived.Test.YthepmkjggfijoaaGreatDoorSA
import Derived.Test.YthepmkjggfijoaaGreatDoorW06
import Derived.Test.YthepmkjggfijoaaGreatDoorW07
set_option linter.all false
set_option maxRecDepth 100000
set_option maxHeartbeats 4000000
namespace Go.Proofs.YthepmkjggfijoaaGreatDoor
open Go.RowKit Mist
attribute [local go_sem] aj aH aS aB ak
theorem pl_if {ay:Bool}{d N:Nat}{E:bC→kJ}(hN:N≤900000)(hd:d≤100)(X:Hid (Mk ay E (N+50000) (.int .i64 (d:Int))))(b:Nat)(R:b % 7=0){g:Nat}{iv:Value}{w:World}{s:bC}{xs:List NV}{nv lv:Value}(H:Hid (dY g ay iv w s xs nv lv))(hn:s.ns.length≤N) :
  Calls Tryz.prog 175 #[.pointer (some ⟨g,0,none⟩),.int .i64 (b:Int),.int .i64 ((d:Int)+1)] w (lg g ay iv w xs nv (eF ay E b s)):=by
 have M:=O (iL.refl (g:=g) (w:=w) (xs:=xs) (nv:=nv));have zd:IntKind.i64.wrap ((d:Int)+1 - 1)=(d:Int):=by rw [Int.add_sub_cancel];exact IntWalk.i64_in _ ⟨by omega,by omega⟩
 have OT:Int.tmod (b:Int) 7=0:=by rw [Int.tmod_eq_emod_of_nonneg (by omega)];omega
 have U:=O (show eF ay E b s=Va ay E s.tl by unfold eF;simp only;rw [if_pos R]);go_in
 go_wp2_with fail;refine (zS H M).mono ?_;clear H M;rintro e w1⟨oI,rfl,q1,H,M,-⟩;go_wp2_with fail;refine (Qe (s.nx) _).mono ?_;rintro e w2⟨x,rfl,Hx,lx,rfl⟩;clear R;go_wp2_with fail;refine (J2 H M X (by omega)).mono ?_;clear H M;rintro e w3⟨C,c,Xj,FM,OY,rfl,gM,Z,O3,c2,VW,H,M,-⟩;go_wp2_with fail;refine (J2 H M X (by omega)).mono ?_;clear H M;rintro e w4⟨D,i,c6,yH,KF,rfl,fq,Ji,UO,c4,a2,H,M,-⟩;go_wp2_with fail;refine (J2 H M X (by omega)).mono ?_;clear H M;rintro e w5⟨k,L,c7,Fu,SG,rfl,jX,zO,P,c5,a6,H,M,-⟩;go_wp2_with fail;refine (wP H M).mono ?_;clear H M;rintro e w6⟨a,b6,rfl,F,b3,q6,H,M,-⟩;have yX:¬ 9223372036854775807 < 2+a.length:=by omega
 have y5:¬ 9223372036854775807 < 2+a.length+c.length:=by omega
 go_wp2_with fail;refine (wP H M).mono ?_;clear H M;rintro e w7⟨f,b7,rfl,G,b4,q7,H,M,-⟩;clear yX y5;have y7:¬ 9223372036854775807 < 2+a.length:=by omega
 have zo:¬ 9223372036854775807 < 2+a.length+c.length:=by omega
 have zx:¬ 9223372036854775807 < 2+a.length+c.length+f.length:=by omega
 have zB:¬ 9223372036854775807 < 2+a.length+c.length+f.length+4:=by omega
 go_wp2_with fail;refine (wP H M).mono ?_;clear H M;rintro e w8⟨h,b8,rfl,I,b5,q8,H,M,-⟩;clear y7 zo zx zB;have Ru:¬ 9223372036854775807 < 2+a.length:=by omega
 have Rw:¬ 9223372036854775807 < 2+a.length+c.length:=by omega
 have Ry:¬ 9223372036854775807 < 2+a.length+c.length+f.length:=by omega
 have RA:¬ 9223372036854775807 < 2+a.length+c.length+f.length+4:=by omega
 have RD:¬ 9223372036854775807 < 2+a.length+c.length+f.length+4+h.length:=by omega
 have RF:¬ 9223372036854775807 < 2+a.length+c.length+f.length+4+h.length+i.length:=by omega
 go_wp2_with fail;refine (wP H M).mono ?_;clear H M;rintro e w9⟨j,b9,rfl,J,GL,a1,H,M,-⟩;clear Ru Rw Ry RA RD RF;have l:¬ 9223372036854775807 < 2+a.length:=by omega
 have m:¬ 9223372036854775807 < 2+a.length+c.length:=by omega
 have n:¬ 9223372036854775807 < 2+a.length+c.length+f.length:=by omega
 have q:¬ 9223372036854775807 < 2+a.length+c.length+f.length+4:=by omega
 have r:¬ 9223372036854775807 < 2+a.length+c.length+f.length+4+h.length:=by omega
 have u:¬ 9223372036854775807 < 2+a.length+c.length+f.length+4+h.length+i.length:=by omega
 have v:¬ 9223372036854775807 < 2+a.length+c.length+f.length+4+h.length+i.length+j.length:=by omega
 have y:¬ 9223372036854775807 < 2+a.length+c.length+f.length+4+h.length+i.length+j.length+4:=by omega
 go_wp2_with fail;refine (wP H M).mono ?_;clear H M;rintro e Qv⟨A,S,rfl,Qx,Q,c0,H,M,-⟩;clear l m n q r u v y;have Ih:¬ 9223372036854775807 < 2+a.length:=by omega
 have Ik:¬ 9223372036854775807 < 2+a.length+c.length:=by omega
 have JZ:¬ 9223372036854775807 < 2+a.length+c.length+f.length:=by omega
 have Kn:¬ 9223372036854775807 < 2+a.length+c.length+f.length+4:=by omega
 have a7:¬ 9223372036854775807 < 2+a.length+c.length+f.length+4+h.length:=by omega
 have a8:¬ 9223372036854775807 < 2+a.length+c.length+f.length+4+h.length+i.length:=by omega
 have a9:¬ 9223372036854775807 < 2+a.length+c.length+f.length+4+h.length+i.length+j.length:=by omega
 have b0:¬ 9223372036854775807 < 2+a.length+c.length+f.length+4+h.length+i.length+j.length+4:=by omega
 have b1:¬ 9223372036854775807 < 2+a.length+c.length+f.length+4+h.length+i.length+j.length+4+A.length:=by omega
 have b2:¬ 9223372036854775807 < 2+a.length+c.length+f.length+4+h.length+i.length+j.length+4+A.length+L.length:=by omega
 go_wp2_with fail;obtain⟨Y,K⟩:∃ Y:Bs,Hid ([105,102] ++ a ++ c ++ f ++ [116,104,101,110] ++ h ++ i ++ j ++ [101,108,115,101] ++ A ++ L=Y):=⟨_,O rfl⟩;rw [show (⟨#[105,102]⟩:ByteArray) ++ aM (a) ++ aM (c) ++ aM (f) ++ (⟨#[116,104,101,110]⟩:ByteArray) ++ aM (h) ++ aM (i) ++ aM (j) ++ (⟨#[101,108,115,101]⟩:ByteArray) ++ aM (A) ++ aM (L)=aM Y from by rw [← K.o] <;> (simp only [← ak];rfl)];have BF:Y.length≤10000000:=by rw [← K.o];simp only [aaO,List.length_cons,List.length_nil];omega
 refine (smH H M (t:=Y) (by omega)).mono ?_;clear H M;rintro e Et⟨a0,T,rfl,B,c1,H,M⟩;go_wp2_with fail;refine (Vb H M [C.ix,D.ix,k.ix] (by simp) (by omega)).mono ?_;clear H M;rintro e wQ⟨Dr,uL,rfl,H,M,-⟩;go_wp2_with fail;go_ret2
 have V:=O (show Va ay E s.tl=bH (fK ay (([],3,[105,102]) :: (bN.on a C.pc ++ (f,3,[116,104,101,110]) :: (bN.on h D.pc ++ (j,3,[101,108,115,101]) :: bN.on A k.pc))) (aX ay (aX ay (aX ay (aX ay (aX ay (k.st))))))) (gX ay (aX ay (aX ay (aX ay (aX ay (aX ay (k.st))))))) ⟨19,[],0,[C.ix,D.ix,k.ix],0⟩ from by
  unfold Va
  try simp only
  rw [gM.o,fq.o,jX.o,F.o,G.o,I.o,J.o,Qx.o] <;> rfl)
 rw [U.o,V.o]
 refine⟨?_,_,_,_,H.o,M.o⟩
 show _=Ending.returned (.tuple #[.string (aM (aN (fK ay (([],3,[105,102]) :: (bN.on a C.pc ++ (f,3,[116,104,101,110]) :: (bN.on h D.pc ++ (j,3,[101,108,115,101]) :: bN.on A k.pc))) (aX ay (aX ay (aX ay (aX ay (aX ay (k.st))))))))),.int .i64 (gX ay (aX ay (aX ay (aX ay (aX ay (aX ay (k.st))))))).id])
 have W:aN (([],3,[105,102]) :: (bN.on a C.pc ++ (f,3,[116,104,101,110]) :: (bN.on h D.pc ++ (j,3,[101,108,115,101]) :: bN.on A k.pc)))=Y:=by
  simp only [aN,qZ,bP];rw [O3.o,UO.o,P.o,← K.o] <;> simp only [List.nil_append,List.append_nil,List.append_assoc,List.cons_append]
 rw [qU,W,B.o];rfl
theorem pl_let {ay:Bool}{d N:Nat}{E:bC→kJ}(hN:N≤900000)(hd:d≤100)(X:Hid (Mk ay E (N+50000) (.int .i64 (d:Int))))(b:Nat)(B:b % 7=1){g:Nat}{iv:Value}{w:World}{s:bC}{xs:List NV}{nv lv:Value}(H:Hid (dY g ay iv w s xs nv lv))(hn:s.ns.length≤N) :
  Calls Tryz.prog 175 #[.pointer (some ⟨g,0,none⟩),.int .i64 (b:Int),.int .i64 ((d:Int)+1)] w (lg g ay iv w xs nv (eF ay E b s)):=by
 have M:=O (iL.refl (g:=g) (w:=w) (xs:=xs) (nv:=nv));have zd:IntKind.i64.wrap ((d:Int)+1 - 1)=(d:Int):=by rw [Int.add_sub_cancel];exact IntWalk.i64_in _ ⟨by omega,by omega⟩
 have OT:Int.tmod (b:Int) 7=1:=by rw [Int.tmod_eq_emod_of_nonneg (by omega)];omega
 have A:=O (show eF ay E b s=DW ay E (bA s.nx) s.tl by unfold eF;simp only;rw [if_neg (by omega)];rw [if_pos B]);go_in
 go_wp2_with fail;refine (zS H M).mono ?_;clear H M;rintro e w1⟨oI,rfl,q1,H,M,-⟩;go_wp2_with fail;refine (Qe (s.nx) _).mono ?_;rintro e w2⟨x,rfl,J,lx,rfl⟩;rw [J.o] at A
 clear B;go_wp2_with fail;refine (J2 H M X (by omega)).mono ?_;clear H M;rintro e w3⟨l,f,Xj,FM,OY,rfl,gM,u,O3,b5,VW,H,M,-⟩;go_wp2_with fail;refine (J2 H M X (by omega)).mono ?_;clear H M;rintro e w4⟨i,y,b7,yH,KF,rfl,fq,Ji,U,b6,Z,H,M,-⟩;go_wp2_with fail;refine (wP H M).mono ?_;clear H M;rintro e w5⟨a,SG,rfl,K,a7,q5,H,M,-⟩;have yX:¬ 9223372036854775807 < 3+a.length:=by omega
 have y5:¬ 9223372036854775807 < 3+a.length+x.length:=by omega
 go_wp2_with fail;refine (wP H M).mono ?_;clear H M;rintro e w6⟨c,b1,rfl,m,a8,q6,H,M,-⟩;clear yX y5;have y7:¬ 9223372036854775807 < 3+a.length:=by omega
 have zo:¬ 9223372036854775807 < 3+a.length+x.length:=by omega
 have zx:¬ 9223372036854775807 < 3+a.length+x.length+c.length:=by omega
 have zB:¬ 9223372036854775807 < 3+a.length+x.length+c.length+1:=by omega
 have F:¬ 9223372036854775807 < 3+a.length+x.length+c.length+1+f.length:=by omega
 go_wp2_with fail;refine (wP H M).mono ?_;clear H M;rintro e w7⟨h,b2,rfl,n,a9,q7,H,M,-⟩;clear y7 zo zx zB F;have R:¬ 9223372036854775807 < 3+a.length:=by omega
 have S:¬ 9223372036854775807 < 3+a.length+x.length:=by omega
 have T:¬ 9223372036854775807 < 3+a.length+x.length+c.length:=by omega
 have L:¬ 9223372036854775807 < 3+a.length+x.length+c.length+1:=by omega
 have P:¬ 9223372036854775807 < 3+a.length+x.length+c.length+1+f.length:=by omega
 have Q:¬ 9223372036854775807 < 3+a.length+x.length+c.length+1+f.length+h.length:=by omega
 have j:¬ 9223372036854775807 < 3+a.length+x.length+c.length+1+f.length+h.length+2:=by omega
 go_wp2_with fail;refine (wP H M).mono ?_;clear H M;rintro e w8⟨k,b3,rfl,q,b0,q8,H,M,-⟩;clear R S T L P Q j;have Ih:¬ 9223372036854775807 < 3+a.length:=by omega
 have Ik:¬ 9223372036854775807 < 3+a.length+x.length:=by omega
 have JZ:¬ 9223372036854775807 < 3+a.length+x.length+c.length:=by omega
 have Kn:¬ 9223372036854775807 < 3+a.length+x.length+c.length+1:=by omega
 have a0:¬ 9223372036854775807 < 3+a.length+x.length+c.length+1+f.length:=by omega
 have a1:¬ 9223372036854775807 < 3+a.length+x.length+c.length+1+f.length+h.length:=by omega
 have a2:¬ 9223372036854775807 < 3+a.length+x.length+c.length+1+f.length+h.length+2:=by omega
 have a5:¬ 9223372036854775807 < 3+a.length+x.length+c.length+1+f.length+h.length+2+k.length:=by omega
 have a6:¬ 9223372036854775807 < 3+a.length+x.length+c.length+1+f.length+h.length+2+k.length+y.length:=by omega
 go_wp2_with fail;obtain⟨Y,v⟩:∃ Y:Bs,Hid ([108,101,116] ++ a ++ x ++ c ++ [61] ++ f ++ h ++ [105,110] ++ k ++ y=Y):=⟨_,O rfl⟩;rw [show (⟨#[108,101,116]⟩:ByteArray) ++ aM (a) ++ aM (x) ++ aM (c) ++ (⟨#[61]⟩:ByteArray) ++ aM (f) ++ aM (h) ++ (⟨#[105,110]⟩:ByteArray) ++ aM (k) ++ aM (y)=aM Y from by rw [← v.o] <;> (simp only [← ak];rfl)];have BF:Y.length≤10000000:=by rw [← v.o];simp only [aaO,List.length_cons,List.length_nil];omega
 refine (smH H M (t:=Y) (by omega)).mono ?_;clear H M;rintro e w9⟨V,b4,rfl,r,W,H,M⟩;go_wp2_with fail;refine (Vb H M [l.ix,i.ix] (by simp) (by omega)).mono ?_;clear H M;rintro e Qv⟨D,C,rfl,H,M,-⟩;go_wp2_with fail;go_ret2
 have G:=O (show DW ay E x s.tl=bH (fK ay (([],3,[108,101,116]) :: (a,1,x) :: (c,4,[61]) :: (l.pc ++ (h,3,[105,110]) :: bN.on k i.pc)) (aX ay (aX ay (aX ay (aX ay (i.st)))))) (gX ay (aX ay (aX ay (aX ay (aX ay (i.st)))))) ⟨20,x,0,[l.ix,i.ix],0⟩ from by
  unfold DW
  try simp only
  rw [gM.o,fq.o,K.o,m.o,n.o,q.o] <;> rfl)
 rw [A.o,G.o]
 refine⟨?_,_,_,_,H.o,M.o⟩
 show _=Ending.returned (.tuple #[.string (aM (aN (fK ay (([],3,[108,101,116]) :: (a,1,x) :: (c,4,[61]) :: (l.pc ++ (h,3,[105,110]) :: bN.on k i.pc)) (aX ay (aX ay (aX ay (aX ay (i.st)))))))),.int .i64 (gX ay (aX ay (aX ay (aX ay (aX ay (i.st)))))).id])
 have I:aN (([],3,[108,101,116]) :: (a,1,x) :: (c,4,[61]) :: (l.pc ++ (h,3,[105,110]) :: bN.on k i.pc))=Y:=by
  simp only [aN,qZ,bP];rw [U.o,u.o,← v.o] <;> simp only [List.nil_append,List.append_nil,List.append_assoc,List.cons_append]
 rw [qU,I,r.o];rfl
theorem Te {ay:Bool}{d N:Nat}{E:bC→kJ}(hN:N≤900000)(hd:d≤100)(X:Hid (Mk ay E (N+50000) (.int .i64 (d:Int))))(b:Nat)(k:b % 7=3){g:Nat}{iv:Value}{w:World}{s:bC}{xs:List NV}{nv lv:Value}(H:Hid (dY g ay iv w s xs nv lv))(U:s.ns.length≤N) :
  Calls Tryz.prog 175 #[.pointer (some ⟨g,0,none⟩),.int .i64 (b:Int),.int .i64 ((d:Int)+1)] w (lg g ay iv w xs nv (eF ay E b s)):=by
 have M:=O (iL.refl (g:=g) (w:=w) (xs:=xs) (nv:=nv));have zd:IntKind.i64.wrap ((d:Int)+1 - 1)=(d:Int):=by rw [Int.add_sub_cancel];exact IntWalk.i64_in _ ⟨by omega,by omega⟩
 have Q:Int.tmod (b:Int) 7=3:=by rw [Int.tmod_eq_emod_of_nonneg (by omega)];omega
 have j:=O (show eF ay E b s=sI ay E (bA s.nx) s.tl by unfold eF;simp only;rw [if_neg (by omega)];rw [if_neg (by omega)];rw [if_neg (by omega)];rw [if_pos k]);go_in
 go_wp2_with fail;refine (zS H M).mono ?_;clear H M;rintro e w1⟨W,rfl,Z,H,M,-⟩;go_wp2_with fail;refine (Qe (s.nx) _).mono ?_;rintro e w2⟨x,rfl,n,V,rfl⟩;rw [n.o] at j
 clear k;go_wp2_with fail;refine (J2 H M X (by omega)).mono ?_;clear H M;rintro e w3⟨f,a,T,D,R,rfl,t,h,P,y,S,H,M,-⟩;have v:¬ 9223372036854775807 < 1+a.length:=by omega
 have A:¬ 9223372036854775807 < 1+a.length+1:=by omega
 go_wp2_with fail;refine (wP H M).mono ?_;clear H M;rintro e w4⟨c,K,rfl,q,u,q4,H,M,-⟩;clear v A;have G:¬ 9223372036854775807 < 1+a.length:=by omega
 have I:¬ 9223372036854775807 < 1+a.length+1:=by omega
 have J:¬ 9223372036854775807 < 1+a.length+1+c.length:=by omega
 have L:¬ 9223372036854775807 < 1+a.length+1+c.length+1:=by omega
 have r:¬ 9223372036854775807 < 1+a.length+1+c.length+1+x.length:=by omega
 go_wp2_with fail;obtain⟨Y,i⟩:∃ Y:Bs,Hid ([40] ++ a ++ [41] ++ c ++ [46] ++ x=Y):=⟨_,O rfl⟩;rw [show (⟨#[40]⟩:ByteArray) ++ aM (a) ++ (⟨#[41]⟩:ByteArray) ++ aM (c) ++ (⟨#[46]⟩:ByteArray) ++ aM (x)=aM Y from by rw [← i.o] <;> (simp only [← ak];rfl)];have C:Y.length≤10000000:=by rw [← i.o];simp only [aaO,List.length_cons,List.length_nil];omega
 refine (Vb H M [f.ix] (by simp) (by omega)).mono ?_;clear H M;rintro e w5⟨B,F,rfl,H,M,-⟩;go_wp2_with fail;go_ret2
 have l:=O (show sI ay E x s.tl=bH (bP [40] :: (f.pc ++ [bP [41],(c,4,[46]),([],1,x)])) (aX ay (f.st)) ⟨22,x,0,[f.ix],0⟩ from by
  unfold sI
  try simp only
  rw [t.o,q.o] <;> rfl)
 rw [j.o,l.o]
 refine⟨?_,_,_,_,H.o,M.o⟩
 show _=Ending.returned (.tuple #[.string (aM (aN ((bP [40] :: (f.pc ++ [bP [41],(c,4,[46]),([],1,x)]))))),.int .i64 (aX ay (f.st)).id])
 have m:aN (bP [40] :: (f.pc ++ [bP [41],(c,4,[46]),([],1,x)]))=Y:=by
  simp only [aN,qZ,bP];rw [h.o,← i.o] <;> simp only [List.nil_append,List.append_nil,List.append_assoc,List.cons_append]
 rw [m];rfl
theorem Tp {ay:Bool}{d N:Nat}{E:bC→kJ}(hN:N≤900000)(hd:d≤100)(X:Hid (Mk ay E (N+50000) (.int .i64 (d:Int))))(b:Nat)(m:b % 7=4){g:Nat}{iv:Value}{w:World}{s:bC}{xs:List NV}{nv lv:Value}(H:Hid (dY g ay iv w s xs nv lv))(hn:s.ns.length≤N) :
  Calls Tryz.prog 175 #[.pointer (some ⟨g,0,none⟩),.int .i64 (b:Int),.int .i64 ((d:Int)+1)] w (lg g ay iv w xs nv (eF ay E b s)):=by
 have M:=O (iL.refl (g:=g) (w:=w) (xs:=xs) (nv:=nv));have zd:IntKind.i64.wrap ((d:Int)+1 - 1)=(d:Int):=by rw [Int.add_sub_cancel];exact IntWalk.i64_in _ ⟨by omega,by omega⟩
 have Z:Int.tmod (b:Int) 7=4:=by rw [Int.tmod_eq_emod_of_nonneg (by omega)];omega
 have n:=O (show eF ay E b s=sP ay E s.tl by unfold eF;simp only;rw [if_neg (by omega)];rw [if_neg (by omega)];rw [if_neg (by omega)];rw [if_neg (by omega)];rw [if_pos m]);go_in
 go_wp2_with fail;refine (zS H M).mono ?_;clear H M;rintro e w1⟨oI,rfl,q1,H,M,-⟩;go_wp2_with fail;refine (Qe (s.nx) _).mono ?_;rintro e w2⟨x,rfl,Q,lx,rfl⟩;clear m;go_wp2_with fail;refine (J2 H M X (by omega)).mono ?_;clear H M;rintro e w3⟨j,a,Xj,P,OY,rfl,B,k,W,F,VW,H,M,-⟩;go_wp2_with fail;refine (J2 H M X (by omega)).mono ?_;clear H M;rintro e w4⟨c,i,J,yH,U,rfl,A,t,UO,G,v,H,M,-⟩;have D:¬ 9223372036854775807 < 1+a.length:=by omega
 have I:¬ 9223372036854775807 < 1+a.length+2:=by omega
 have f:¬ 9223372036854775807 < 1+a.length+2+i.length:=by omega
 go_wp2_with fail;refine (wP H M).mono ?_;clear H M;rintro e w5⟨h,SG,rfl,u,C,q5,H,M,-⟩;clear D I f;have R:¬ 9223372036854775807 < 1+a.length:=by omega
 have S:¬ 9223372036854775807 < 1+a.length+2:=by omega
 have T:¬ 9223372036854775807 < 1+a.length+2+i.length:=by omega
 have V:¬ 9223372036854775807 < 1+a.length+2+i.length+h.length:=by omega
 have y:¬ 9223372036854775807 < 1+a.length+2+i.length+h.length+1:=by omega
 go_wp2_with fail;obtain⟨Y,l⟩:∃ Y:Bs,Hid ([40] ++ a ++ [41,91] ++ i ++ h ++ [93]=Y):=⟨_,O rfl⟩;rw [show (⟨#[40]⟩:ByteArray) ++ aM (a) ++ (⟨#[41,91]⟩:ByteArray) ++ aM (i) ++ aM (h) ++ (⟨#[93]⟩:ByteArray)=aM Y from by rw [← l.o] <;> (simp only [← ak];rfl)];have L:Y.length≤10000000:=by rw [← l.o];simp only [aaO,List.length_cons,List.length_nil];omega
 refine (Vb H M [j.ix,c.ix] (by simp) (by omega)).mono ?_;clear H M;rintro e w6⟨K,XB,rfl,H,M,-⟩;go_wp2_with fail;go_ret2
 have q:=O (show sP ay E s.tl=bH (bP [40] :: (j.pc ++ bP [41] :: bP [91] :: (c.pc ++ [(h,4,[93])]))) (aX ay (c.st)) ⟨23,[],0,[j.ix,c.ix],0⟩ from by
  unfold sP
  try simp only
  rw [B.o,A.o,u.o] <;> rfl)
 rw [n.o,q.o]
 refine⟨?_,_,_,_,H.o,M.o⟩
 show _=Ending.returned (.tuple #[.string (aM (aN ((bP [40] :: (j.pc ++ bP [41] :: bP [91] :: (c.pc ++ [(h,4,[93])])))))),.int .i64 (aX ay (c.st)).id])
 have r:aN (bP [40] :: (j.pc ++ bP [41] :: bP [91] :: (c.pc ++ [(h,4,[93])])))=Y:=by
  simp only [aN,qZ,bP];rw [k.o,t.o,← l.o] <;> simp only [List.nil_append,List.append_nil,List.append_assoc,List.cons_append]
 rw [r];rfl
theorem XE {ay:Bool}{d N:Nat}{E:bC→kJ}(hN:N≤900000)(hd:d≤100)(X:Hid (Mk ay E (N+50000) (.int .i64 (d:Int))))(y:Hid (LsC ay E N (.int .i64 ((d:Int)+1))))(b:Nat)(q:b % 7=2){g:Nat}{iv:Value}{w:World}{s:bC}{xs:List NV}{nv lv:Value}(H:Hid (dY g ay iv w s xs nv lv))(hn:s.ns.length≤N) :
  Calls Tryz.prog 175 #[.pointer (some ⟨g,0,none⟩),.int .i64 (b:Int),.int .i64 ((d:Int)+1)] w (lg g ay iv w xs nv (eF ay E b s)):=by
 have M:=O (iL.refl (g:=g) (w:=w) (xs:=xs) (nv:=nv));have zd:IntKind.i64.wrap ((d:Int)+1 - 1)=(d:Int):=by rw [Int.add_sub_cancel];exact IntWalk.i64_in _ ⟨by omega,by omega⟩
 have OT:Int.tmod (b:Int) 7=2:=by rw [Int.tmod_eq_emod_of_nonneg (by omega)];omega
 have n:=O (show eF ay E b s=xJ ay E (bA s.nx) s.tl by unfold eF;simp only;rw [if_neg (by omega)];rw [if_neg (by omega)];rw [if_pos q]);go_in
 go_wp2_with fail;refine (zS H M).mono ?_;clear H M;rintro e w1⟨oI,rfl,q1,H,M,-⟩;go_wp2_with fail;refine (Qe (s.nx) _).mono ?_;rintro e w2⟨x,rfl,u,lx,rfl⟩;rw [u.o] at n
 clear q;obtain⟨l,h⟩:∃ m,m=(s.tl).nx % 4:=⟨_,rfl⟩;have Q:Int.tmod ((s.tl).nx:Int) 4=(l:Int):=by rw [Int.tmod_eq_emod_of_nonneg (by omega),h];omega
 have j:=O h.symm;have C:l≤3:=by omega
 clear h;go_wp2_with fail;refine (zS H M).mono ?_;clear H M;rintro e w3⟨OY,rfl,q3,H,M,-⟩;go_wp2_with fail;refine (lsH H M X y (m:=l) (by omega) (by omega)).mono ?_;clear H M;rintro e w4⟨f,c,S,c4,L,yH,Z,rfl,F,v,UO,B,J,D,k,H,M,-⟩;have I:¬ 9223372036854775807 < x.length+1:=by omega
 have K:¬ 9223372036854775807 < x.length+1+c.length:=by omega
 go_wp2_with fail;refine (wP H M).mono ?_;clear H M;rintro e w5⟨a,SG,rfl,A,G,q5,H,M,R⟩
 replace k:=kp R k
 clear R;clear I K;have U:¬ 9223372036854775807 < x.length+1:=by omega
 have V:¬ 9223372036854775807 < x.length+1+c.length:=by omega
 have W:¬ 9223372036854775807 < x.length+1+c.length+a.length:=by omega
 have Kn:¬ 9223372036854775807 < x.length+1+c.length+a.length+1:=by omega
 go_wp2_with fail;obtain⟨Y,i⟩:∃ Y:Bs,Hid (x ++ [40] ++ c ++ a ++ [41]=Y):=⟨_,O rfl⟩;rw [show aM (x) ++ (⟨#[40]⟩:ByteArray) ++ aM (c) ++ aM (a) ++ (⟨#[41]⟩:ByteArray)=aM Y from by rw [← i.o] <;> (simp only [← ak];rfl)];have T:Y.length≤10000000:=by rw [← i.o];simp only [aaO,List.length_cons,List.length_nil];omega
 refine (Zw H M k (by omega)).mono ?_;clear H M;rintro e w6⟨P,XB,rfl,H,M,-⟩;go_wp2_with fail;go_ret2
 have r:=O (show xJ ay E x s.tl=bH (([],1,x) :: bP [40] :: (f.pc ++ [(a,4,[41])])) (aX ay (f.st)) ⟨21,x,0,f.ix,0⟩ from by
  unfold xJ
  try simp only
  rw [j.o,F.o,A.o] <;> rfl)
 rw [n.o,r.o]
 refine⟨?_,_,_,_,H.o,M.o⟩
 show _=Ending.returned (.tuple #[.string (aM (aN ((([],1,x) :: bP [40] :: (f.pc ++ [(a,4,[41])]))))),.int .i64 (aX ay (f.st)).id])
 have t:aN (([],1,x) :: bP [40] :: (f.pc ++ [(a,4,[41])]))=Y:=by
  simp only [aN,qZ,bP];rw [v.o,← i.o] <;> simp only [List.nil_append,List.append_nil,List.append_assoc,List.cons_append]
 rw [t];rfl
theorem Tc {ay:Bool}{d N:Nat}{E:bC→kJ}(hN:N≤900000)(hd:d≤100)(X:Hid (Mk ay E (N+50000) (.int .i64 (d:Int))))(u:Hid (LsC ay E N (.int .i64 ((d:Int)+1))))(b:Nat)(n:b % 7=5){g:Nat}{iv:Value}{w:World}{s:bC}{xs:List NV}{nv lv:Value}(H:Hid (dY g ay iv w s xs nv lv))(hn:s.ns.length≤N) :
  Calls Tryz.prog 175 #[.pointer (some ⟨g,0,none⟩),.int .i64 (b:Int),.int .i64 ((d:Int)+1)] w (lg g ay iv w xs nv (eF ay E b s)):=by
 have M:=O (iL.refl (g:=g) (w:=w) (xs:=xs) (nv:=nv));have zd:IntKind.i64.wrap ((d:Int)+1 - 1)=(d:Int):=by rw [Int.add_sub_cancel];exact IntWalk.i64_in _ ⟨by omega,by omega⟩
 have OT:Int.tmod (b:Int) 7=5:=by rw [Int.tmod_eq_emod_of_nonneg (by omega)];omega
 have q:=O (show eF ay E b s=rQ ay E s.tl by unfold eF;simp only;rw [if_neg (by omega)];rw [if_neg (by omega)];rw [if_neg (by omega)];rw [if_neg (by omega)];rw [if_neg (by omega)];rw [if_pos n]);go_in
 go_wp2_with fail;refine (zS H M).mono ?_;clear H M;rintro e w1⟨oI,rfl,q1,H,M,-⟩;go_wp2_with fail;refine (Qe (s.nx) _).mono ?_;rintro e w2⟨x,rfl,S,lx,rfl⟩;clear n;obtain⟨f,i⟩:∃ m,m=(s.tl).nx % 4:=⟨_,rfl⟩;have L:Int.tmod ((s.tl).nx:Int) 4=(f:Int):=by rw [Int.tmod_eq_emod_of_nonneg (by omega),i];omega
 have k:=O i.symm;have B:f≤3:=by omega
 clear i;have K:IntKind.i64.wrap (1+(f:Int))=((1+f:Nat):Int):=by rw [IntWalk.i64_in _ (by omega)];omega
 go_wp2_with fail;refine (zS H M).mono ?_;clear H M;rintro e w3⟨OY,rfl,q3,H,M,-⟩;go_wp2_with fail;refine (lsH H M X u (m:=1+f) (by omega) (by omega)).mono ?_;clear H M;rintro e w4⟨c,h,P,c4,I,yH,Z,rfl,D,W,y,A,G,C,l,H,M,-⟩;go_wp2_with fail;refine (wP H M).mono ?_;clear H M;rintro e w5⟨a,SG,rfl,v,F,q5,H,M,R⟩
 replace l:=kp R l
 clear R;have T:¬ 9223372036854775807 < 1+a.length:=by omega
 have U:¬ 9223372036854775807 < 1+a.length+h.length:=by omega
 have V:¬ 9223372036854775807 < 1+a.length+h.length+1:=by omega
 go_wp2_with fail;obtain⟨Y,j⟩:∃ Y:Bs,Hid ([91] ++ a ++ h ++ [93]=Y):=⟨_,O rfl⟩;rw [show (⟨#[91]⟩:ByteArray) ++ aM (a) ++ aM (h) ++ (⟨#[93]⟩:ByteArray)=aM Y from by rw [← j.o] <;> (simp only [← ak];rfl)];have Q:Y.length≤10000000:=by rw [← j.o];simp only [aaO,List.length_cons,List.length_nil];omega
 refine (Zw H M l (by omega)).mono ?_;clear H M;rintro e w6⟨J,XB,rfl,H,M,-⟩;go_wp2_with fail;go_ret2
 have r:=O (show rQ ay E s.tl=bH (bP [91] :: (bN.on a c.pc ++ [bP [93]])) (aX ay (c.st)) ⟨26,[],0,c.ix,0⟩ from by
  unfold rQ
  try simp only
  rw [k.o,D.o,v.o] <;> rfl)
 rw [q.o,r.o]
 refine⟨?_,_,_,_,H.o,M.o⟩
 show _=Ending.returned (.tuple #[.string (aM (aN ((bP [91] :: (bN.on a c.pc ++ [bP [93]]))))),.int .i64 (aX ay (c.st)).id])
 have t:aN (bP [91] :: (bN.on a c.pc ++ [bP [93]]))=Y:=by
  simp only [aN,qZ,bP];rw [y.o (by omega),← j.o] <;> simp only [List.nil_append,List.append_nil,List.append_assoc,List.cons_append]
 rw [t];rfl
theorem JK (s:bC)(n:Nd):(s.put n).ns.length=s.ns.length+1:=aaO
theorem pl_rec (ay:Bool)(d N:Nat)(hN:N≤900000)(hE:abO ay d (N+50000))(hL:Qn d≤100000)(hC:UN d≤10000)(b:Nat)(hb:b % 7=6)(g:Nat)(iv:Value)(w:World)(s:bC)(xs:List NV)(nv lv:Value)(h:dY g ay iv w s xs nv lv)(hn:s.ns.length≤N) :
  Calls Tryz.prog 175 #[.pointer (some ⟨g,0,none⟩),.int .i64 (b:Int),.int .i64 ((d:Int)+1)] w (lg g ay iv w xs nv (eF ay (bB ay d) b s)):=by
 have E:=O h;have P:=O (iL.refl (g:=g) (w:=w) (xs:=xs) (nv:=nv));clear h;have BE:=O (kM ay d);have b1:=O hE;have d8:=BO d;have zd:IntKind.i64.wrap ((d:Int)+1 - 1)=(d:Int):=by rw [Int.add_sub_cancel];exact IntWalk.i64_in _ ⟨by omega,by omega⟩
 clear hE;have OT:Int.tmod (b:Int) 7=6:=by rw [Int.tmod_eq_emod_of_nonneg (by omega)];omega
 have HB:=O (show eF ay (bB ay d) b s=D_ ay (bB ay d) (bA s.nx) b s.tl by unfold eF;simp only;rw [if_neg (by omega),if_neg (by omega),if_neg (by omega),if_neg (by omega),if_neg (by omega),if_neg (by omega)]);obtain⟨q,hq⟩:∃ q,q=b % 3:=⟨_,rfl⟩;have zq:Int.tmod (b:Int) 3=(q:Int):=by rw [Int.tmod_eq_emod_of_nonneg (by omega),hq];omega
 obtain⟨m,hm⟩:∃ m,m=1+q:=⟨_,rfl⟩;have d5:IntKind.i64.wrap (1+(q:Int))=(m:Int):=by rw [IntWalk.i64_in _ (by omega)];omega
 have e0:m≤3:=by omega
 have c2:=O (show m=1+b % 3 by rw [hm,hq]);clear hm hq;obtain⟨j0,b4,b8,b9,c0⟩:=info_parts gN;have b3:=E.o.lt;have lx:=iY s.nx;obtain⟨x,hx⟩:∃ x,x=bA s.nx:=⟨_,rfl⟩;rw [← hx] at lx HB
 have HX:=O hx;clear hb;have e2:s.tl.ns.length=s.ns.length:=rfl;go_in
 go_wp2_with fail;refine (bU g ay _ _ (s) _ _ _ E.o).mono ?_;rintro e w1⟨rfl,oI,h,m⟩;have F:=O h;have K:=O (P.o.D7 m);clear h m E P;go_wp2_with fail;refine (fD s.nx _).mono ?_;rintro e w9⟨rfl,rfl⟩;rw [← hx];clear hx;have b6:=K.o.size;have Xp:=O (jG.empty (w0:=w) F.o rfl b6);have HH:=O (F.o.alloc (.cells #[] 3));have MM:=O (K.o.dD (o:=.cells #[] 3));clear F K;go_wp2_with fail;go_loopw [29,30,31] (fun sv l0 i wr=>∃ (k:Nat) (r:pz) (A:Option Addr) (c:Nat) (R:List NV) (gW oI:Value),k≤m∧i=.int .i64 k∧sv=.string (aM (aN r.pc))∧l0=.slice A r.ix.length c∧Hid (r.ix.length=k)∧(aN r.pc).length≤k * 100020∧r.st.ns.length≤N+k * 10001∧Hid (eD ay (bB ay d) (m - k) r=eD ay (bB ay d) m ⟨[],[],s.tl⟩)∧Hid (jG w wr R (.slice A r.ix.length c) r.ix)∧Hid (dY g ay iv wr r.st R gW oI)∧Hid (iL g w xs nv wr R gW)) (fun _ _ i _=>m - (intOf i).toNat)
 case atStart=>exact⟨0,⟨[],[],s.tl⟩,_,_,xs,nv,oI,aaL _,rfl,rfl,rfl,O rfl,by simp [aN],(by first|(simpa using hn)|(show s.tl.ns.length≤_;omega)),O rfl,Xp,HH,MM⟩
 case round =>
  clear Xp HH MM;obtain⟨wo,rfl⟩:∃ wo:World,wo=wr:=⟨_,rfl⟩;obtain⟨k,r,A,c,R,gW,e3,hk,rfl,rfl,rfl,I,W,e1,HR,j,E,P⟩:=hrel;by_cases Q:k < m
  ·obtain⟨mm,b5⟩:∃ mm,m - k=mm+1:=⟨m - k - 1,by omega⟩;have IV:m - (k+1)=mm:=by omega
   rw [b5] at HR
   have U1:=O IV;clear b5 IV;obtain⟨X,hX⟩:∃ X,X=aN r.pc:=⟨_,rfl⟩;rw [← hX] at W ⊢
   have b2:=O hX;clear hX;by_cases b0:k=0
   ·subst b0;have a0:r.ix=[]:=List.eq_nil_of_length_eq_zero I.o;have U:=O (show eD ay (bB ay d) (mm+1) r=eD ay (bB ay d) mm ⟨r.pc ++ (([],1,bA r.st.nx) :: bP [58] :: (bB ay d r.st.tl).pc),r.ix ++ [(bB ay d r.st.tl).st.id],(bB ay d r.st.tl).st.put ⟨25,bA r.st.nx,0,[(bB ay d r.st.tl).ix],0⟩⟩ by rw [eD];simp only [if_pos a0]);clear a0;go_wp2_with fail;refine (bU g ay _ _ (r.st) _ _ _ E.o).mono ?_;rintro e w1⟨rfl,oI,h,m⟩;have F:=O h;have K:=O (P.o.D7 m)
    replace j:=O (j.o.mv E.o m)
    clear h m E P;go_wp2_with fail;refine (fD (r.st).nx _).mono ?_;rintro e Us⟨rfl,rfl⟩;have ly:=iY (r.st).nx;obtain⟨y,hy⟩:∃ y,y=bA (r.st).nx:=⟨_,rfl⟩;rw [← hy] at ly U ⊢
    clear hy;have d3:(r.st).tl.ns.length=r.st.ns.length:=rfl;go_wp2_with fail;refine (b1.o g _ _ ((r.st).tl) _ _ _ F.o (by first | omega|(simp only [aF,bV];omega))).mono ?_;rintro e w2⟨rfl,e6,Qu,BX,h,m⟩;have M:=O h;have V:=O (K.o.trans m)
    replace j:=O (j.o.mw F.o m)
    clear h m F K;have QW:=BE.o.text ((r.st).tl);have U9:=BE.o.nodes ((r.st).tl);obtain⟨t,a9⟩:∃ a,a=bB ay d ((r.st).tl):=⟨_,rfl⟩;rw [← a9] at M QW U9 ⊢
    obtain⟨T2,IQ⟩:∃ T,T=aN t.pc:=⟨_,rfl⟩;have e4:T2.length≤100000:=by rw [IQ];exact Nat.le_trans QW hL
    rw [← IQ];have c1:=O a9;have c5:=O IQ;clear a9 IQ QW
    (try simp only [aF,bV] at U9)
    rw [← c1.o] at U
    have c7:¬ 9223372036854775807 < X.length+y.length:=by omega
    have c8:¬ 9223372036854775807 < X.length+y.length+1:=by omega
    have c9:¬ 9223372036854775807 < X.length+y.length+1+T2.length:=by omega
    have CG:=O (j.o.apart (n:=1) (c:=1) (aaJ _))
    replace j:=O (j.o.alloc (.cells (intCells [t.ix]).toArray 3))
    have Vm:=O (Mx w2 [t.ix]);have HK:=O (M.o.alloc (.cells (intCells [t.ix]).toArray 3));have Vo:=O (V.o.dD (o:=.cells (intCells [t.ix]).toArray 3));have l:=V.o.size;clear M V;go_wp2_with fail;obtain⟨Y,D⟩:∃ Y:Bs,Y=X ++ y ++ [58] ++ T2:=⟨_,rfl⟩;rw [show aM (X ++ y) ++ (⟨#[58]⟩:ByteArray) ++ aM (T2)=aM Y from by rw [D] <;> (simp only [← ak];rfl)];have BF:Y.length≤10000000:=by rw [D];simp only [aaO,List.length_cons,List.length_nil];omega
    have HY:=O D;clear D;refine (dH g ay _ _ (t.st) _ _ _ HK.o 25 y 0 _ [t.ix] Vm.o (by first | omega|(simp only [aF,bV];omega))).mono ?_;rintro e w3⟨rfl,FM,h,m⟩
    replace j:=O (j.o.put HK.o h m CG.o)
    have H3:=O h;have M3:=O (Vo.o.wB (x:=(⟨25,y,0,[t.ix],0⟩,(.slice (some ⟨w2.heap.size,0,none⟩) 1 1))) m (EM l));clear h m;have H:=O (j.o.alloc (.cells #[.int .i64 (bC.id (t.st))] 3));have HA:=O (H3.o.alloc (.cells #[.int .i64 (bC.id (t.st))] 3));have MA:=O (M3.o.dD (o:=(.cells #[.int .i64 (bC.id (t.st))] 3)));have l:=MA.o.size;have d2:r.ix.length≤3:=by have:=I.o;omega
    go_wp2_with (at_builtin;go_loud (refine wpList_append_lies _ rfl (.tmp 272) (.tmp 279) 24 rfl 0 3 j0 (.int .i64 0) 1 8 Tryz.underlying24 b4 b8 b9 c0 rfl (by decide) _ r.ix.length (intCells r.ix) rfl H.o.row ⟨w3.heap.size,0,none⟩ 1 1 [.int .i64 (bC.id (t.st))] rfl rfl (cell_one_new _ _ _) (by simp [Value.oneCell']) (by omega) (by simp only [maxLen];omega) (by omega) (aaL _) _ rfl ?_);intro Kw CK Tx v f L Q;have a5:=O (H.o.grow HA.o v L l);have a1:=O (HA.o.grow H.o f (fun b hb=>aaK (aaW b3 (H.o.lo b hb))));have a6:=O (MA.o.grow H.o f);clear v f L Q)
    clear H HA MA l j H3 M3;have J:=O (show Y=aN (r.pc ++ (([],1,y) :: bP [58] :: t.pc)) by rw [qZ,HY.o,← b2.o];simp only [aN,bP];rw [c5.o];simp only [List.nil_append,List.append_nil,List.append_assoc,List.cons_append]);exact⟨⟨0+1,⟨r.pc ++ (([],1,y) :: bP [58] :: t.pc),r.ix ++ [bC.id (t.st)],(t.st).put ⟨25,y,0,[t.ix],0⟩⟩,_,_,_,_,_,by omega,by go_num,congrArg Value.string (congrArg aM J.o),by rw [aaO];rfl,O (by rw [aaO,I.o];rfl),by rw [← J.o,HY.o];simp only [aaO,List.length_cons,List.length_nil];omega,by show (bC.put _ _).ns.length≤_;rw [JK];omega,O (by show eD ay (bB ay d) (m - (0+1)) _=_;rw [U1.o,← U.o,HR.o]),by rw [aaO];exact a5,a1,a6⟩,by simp [intOf];omega⟩
   ·have b7:r.ix ≠ []:=fun h=>b0 (by rw [← I.o,h];rfl)
    have U:=O (show eD ay (bB ay d) (mm+1) r=eD ay (bB ay d) mm ⟨r.pc ++ ((bG ay r.st,4,[44]) :: ([],1,bA (aX ay r.st).nx) :: bP [58] :: (bB ay d (aX ay r.st).tl).pc),r.ix ++ [(bB ay d (aX ay r.st).tl).st.id],(bB ay d (aX ay r.st).tl).st.put ⟨25,bA (aX ay r.st).nx,0,[(bB ay d (aX ay r.st).tl).ix],0⟩⟩ by rw [eD];simp only [if_neg b7]);have d6:(0:Int) < (k:Int):=by omega
    clear b7 b0;go_wp2_with fail;refine (dF g ay _ _ (r.st) _ _ _ E.o).mono ?_;rintro e w1⟨rfl,oI,h,m⟩;have F:=O h;have K:=O (P.o.D7 m)
    replace j:=O (j.o.mv E.o m)
    clear h m E P;have a8:=eU ay (r.st);obtain⟨C,B⟩:∃ G,G=bG ay (r.st):=⟨_,rfl⟩;rw [← B] at a8 ⊢
    have a4:=O B;clear B;rw [← a4.o] at U
    have d0:¬ 9223372036854775807 < C.length+1:=by omega
    have d1:¬ 9223372036854775807 < X.length+(C.length+1):=by omega
    go_wp2_with fail;obtain⟨Z,hZ⟩:∃ Z:Bs,Z=X ++ (C ++ [44]):=⟨_,rfl⟩;rw [show (aM X ++ (aM C ++ (⟨#[44]⟩:ByteArray)))=aM Z from by rw [hZ,← ak,← ak];rfl];have d7:Z.length≤X.length+9:=by rw [hZ];simp only [aaO,List.length_cons,List.length_nil];omega
    have HZ:=O hZ;clear hZ d0 d1;refine (bU g ay _ _ (aX ay (r.st)) _ _ _ F.o).mono ?_;rintro e w2⟨rfl,BX,h,m⟩;have M:=O h;have V:=O (K.o.D7 m)
    replace j:=O (j.o.mv F.o m)
    clear h m F K;go_wp2_with fail;refine (fD ((aX ay r.st)).nx _).mono ?_;rintro e Us⟨rfl,rfl⟩;have ly:=iY ((aX ay r.st)).nx;obtain⟨y,hy⟩:∃ y,y=bA ((aX ay r.st)).nx:=⟨_,rfl⟩;rw [← hy] at ly U ⊢
    clear hy;have d3:((aX ay r.st)).tl.ns.length=r.st.ns.length:=by show (aX ay r.st).ns.length=_;rw [aF]
    go_wp2_with fail;refine (b1.o g _ _ ((aX ay (r.st)).tl) _ _ _ M.o (by first | omega|(simp only [aF,bV];omega))).mono ?_;rintro e w3⟨rfl,Xj,FM,OY,h,m⟩;have H3:=O h;have M3:=O (V.o.trans m)
    replace j:=O (j.o.mw M.o m)
    clear h m M V;have a7:=BE.o.text ((aX ay (r.st)).tl);have VW:=BE.o.nodes ((aX ay (r.st)).tl);obtain⟨u,FK⟩:∃ a,a=bB ay d ((aX ay (r.st)).tl):=⟨_,rfl⟩;rw [← FK] at H3 a7 VW ⊢
    obtain⟨T3,Wd⟩:∃ T,T=aN u.pc:=⟨_,rfl⟩;have e5:T3.length≤100000:=by rw [Wd];exact Nat.le_trans a7 hL
    rw [← Wd];have gM:=O FK;have c6:=O Wd;clear FK Wd a7
    (try simp only [aF,bV] at VW)
    rw [← gM.o] at U
    have c7:¬ 9223372036854775807 < Z.length+y.length:=by omega
    have c8:¬ 9223372036854775807 < Z.length+y.length+1:=by omega
    have c9:¬ 9223372036854775807 < Z.length+y.length+1+T3.length:=by omega
    have CG:=O (j.o.apart (n:=1) (c:=1) (aaJ _))
    replace j:=O (j.o.alloc (.cells (intCells [u.ix]).toArray 3))
    have Vm:=O (Mx w3 [u.ix]);have HK:=O (H3.o.alloc (.cells (intCells [u.ix]).toArray 3));have Vo:=O (M3.o.dD (o:=.cells (intCells [u.ix]).toArray 3));have l:=M3.o.size;clear H3 M3;go_wp2_with fail;obtain⟨Y,D⟩:∃ Y:Bs,Y=Z ++ y ++ [58] ++ T3:=⟨_,rfl⟩;rw [show aM (Z ++ y) ++ (⟨#[58]⟩:ByteArray) ++ aM (T3)=aM Y from by rw [D] <;> (simp only [← ak];rfl)];have BF:Y.length≤10000000:=by rw [D];simp only [aaO,List.length_cons,List.length_nil];omega
    have HY:=O D;clear D;refine (dH g ay _ _ (u.st) _ _ _ HK.o 25 y 0 _ [u.ix] Vm.o (by first | omega|(simp only [aF,bV];omega))).mono ?_;rintro e w4⟨rfl,yH,h,m⟩
    replace j:=O (j.o.put HK.o h m CG.o)
    have H4:=O h;have M4:=O (Vo.o.wB (x:=(⟨25,y,0,[u.ix],0⟩,(.slice (some ⟨w3.heap.size,0,none⟩) 1 1))) m (EM l));clear h m;have H:=O (j.o.alloc (.cells #[.int .i64 (bC.id (u.st))] 3));have HA:=O (H4.o.alloc (.cells #[.int .i64 (bC.id (u.st))] 3));have MA:=O (M4.o.dD (o:=(.cells #[.int .i64 (bC.id (u.st))] 3)));have l:=MA.o.size;have d2:r.ix.length≤3:=by have:=I.o;omega
    go_wp2_with (at_builtin;go_loud (refine wpList_append_lies _ rfl (.tmp 272) (.tmp 279) 24 rfl 0 3 j0 (.int .i64 0) 1 8 Tryz.underlying24 b4 b8 b9 c0 rfl (by decide) _ r.ix.length (intCells r.ix) rfl H.o.row ⟨w4.heap.size,0,none⟩ 1 1 [.int .i64 (bC.id (u.st))] rfl rfl (cell_one_new _ _ _) (by simp [Value.oneCell']) (by omega) (by simp only [maxLen];omega) (by omega) (aaL _) _ rfl ?_);intro Kw CK Tx v f L Q;have a5:=O (H.o.grow HA.o v L l);have a1:=O (HA.o.grow H.o f (fun b hb=>aaK (aaW b3 (H.o.lo b hb))));have a6:=O (MA.o.grow H.o f);clear v f L Q)
    clear H HA MA l j H4 M4;have J:=O (show Y=aN (r.pc ++ ((C,4,[44]) :: ([],1,y) :: bP [58] :: u.pc)) by rw [qZ,HY.o,HZ.o,← b2.o];simp only [aN,bP];rw [c6.o];simp only [List.nil_append,List.append_nil,List.append_assoc,List.cons_append]);exact⟨⟨k+1,⟨r.pc ++ ((C,4,[44]) :: ([],1,y) :: bP [58] :: u.pc),r.ix ++ [bC.id (u.st)],(u.st).put ⟨25,y,0,[u.ix],0⟩⟩,_,_,_,_,_,by omega,by go_num,congrArg Value.string (congrArg aM J.o),by rw [aaO];rfl,O (by rw [aaO,I.o];rfl),by rw [← J.o,HY.o];simp only [aaO,List.length_cons,List.length_nil];omega,by show (bC.put _ _).ns.length≤_;rw [JK];omega,O (by show eD ay (bB ay d) (m - (k+1)) _=_;rw [U1.o,← U.o,HR.o]),by rw [aaO];exact a5,a1,a6⟩,by simp [intOf];omega⟩
  ·obtain rfl:k=m:=by omega
   have c4:=O (show eD ay (bB ay d) k ⟨[],[],s.tl⟩=r by rw [← HR.o,Nat.sub_self];rfl);clear HR;have d4:(aN r.pc).length≤400000:=by omega
   obtain⟨S,hS⟩:∃ S,S=aN r.pc:=⟨_,rfl⟩;rw [← hS] at d4 ⊢
   have HS:=O hS;clear hS W;have sV:¬ 9223372036854775807 < x.length+1:=by omega
   have wh:¬ 9223372036854775807 < x.length+1+S.length:=by omega
   go_wp2_with fail;refine (dF g ay _ _ (r.st) _ _ _ E.o).mono ?_;rintro e w1⟨rfl,oI,h,m⟩;have F:=O h;have K:=O (P.o.D7 m)
   replace j:=O (j.o.mv E.o m)
   clear h m E P;have a8:=eU ay (r.st);obtain⟨C,B⟩:∃ G,G=bG ay (r.st):=⟨_,rfl⟩;rw [← B] at a8 ⊢
   have a4:=O B;clear B;clear sV wh;have Ih:¬ 9223372036854775807 < x.length+1:=by omega
   have Ik:¬ 9223372036854775807 < x.length+1+S.length:=by omega
   have JZ:¬ 9223372036854775807 < x.length+1+S.length+C.length:=by omega
   have Kn:¬ 9223372036854775807 < x.length+1+S.length+C.length+1:=by omega
   go_wp2_with fail;obtain⟨Y,D⟩:∃ Y:Bs,Y=x ++ [123] ++ S ++ C ++ [125]:=⟨_,rfl⟩;rw [show aM (x) ++ (⟨#[123]⟩:ByteArray) ++ aM (S) ++ aM (C) ++ (⟨#[125]⟩:ByteArray)=aM Y from by rw [D] <;> (simp only [← ak];rfl)];have BF:Y.length≤10000000:=by rw [D];simp only [aaO,List.length_cons,List.length_nil];omega
   have HY:=O D;clear D;refine (dH g ay _ _ (aX ay (r.st)) _ _ _ F.o 24 x 0 _ r.ix j.o.row (by first | omega|(simp only [aF,bV];omega))).mono ?_;rintro e w2⟨rfl,Qu,h,m⟩;have M:=O h;have V:=O (K.o.wB (x:=(⟨24,x,0,r.ix,0⟩,(.slice A r.ix.length c))) m (fun b hb=>j.o.lo b hb));clear h m;go_wp2_with fail;go_ret2
   rw [HB.o]
   have HF:=O (show D_ ay (bB ay d) x b s.tl=bH (([],1,x) :: bP [123] :: (r.pc ++ [(C,4,[125])])) (aX ay (r.st)) ⟨24,x,0,r.ix,0⟩ from by
    unfold D_;simp only
    rw [← c2.o,c4.o,← a4.o])
   rw [HF.o]
   refine⟨?_,_,_,_,M.o,V.o⟩
   show _=Ending.returned (.tuple #[.string (aM (aN (([],1,x) :: bP [123] :: (r.pc ++ [(C,4,[125])])))),.int .i64 (aX ay (r.st)).id])
   have HI:=(show aN (([],1,x) :: bP [123] :: (r.pc ++ [(C,4,[125])]))=Y from by
    simp only [aN,qZ,bP];rw [HY.o,← HS.o];simp only [List.nil_append,List.append_nil,List.append_assoc,List.cons_append])
   rw [HI];rfl
section
variable (ay:Bool) (d N:Nat) (hN:N≤900000) (hE:abO ay d (N+50000)) (hL:Qn d≤100000) (hC:UN d≤10000)
include hN hE hL hC
theorem aar:Mk ay (bB ay d) (N+50000) (.int .i64 (d:Int)):=⟨hE,F8 (kM ay d) hL hC,fun s=>iB ay d s⟩
theorem lsc_is:LsC ay (bB ay d) N (.int .i64 ((d:Int)+1)):=fun m a g iv w s xs nv lv h b=>C8 ay d N hN hE hL hC m a g iv w s xs nv lv h b
theorem pl_op (hd:d≤100)(b:Nat)(f:b < 150)(g:Nat)(iv:Value)(w:World)(s:bC)(xs:List NV)(nv lv:Value)(h:dY g ay iv w s xs nv lv)(c:s.ns.length≤N) :
  Calls Tryz.prog 174 #[.pointer (some ⟨g,0,none⟩),.int .i64 (b:Int),.int .i64 ((d:Int)+1)] w (lg g ay iv w xs nv (CW ay (bB ay d) b s)):=by
 have X:=O (aar ay d N hN hE hL hC);by_cases a:b < 75
 ·by_cases e:b % 2=0
  ·exact pl_not hN hd X b a e (O h) c
  ·exact pl_neg hN hd X b a e (O h) c
 ·exact pl_bin hN hd X b a f (O h) c
theorem XF (hd:d≤100)(b:Nat)(g:Nat)(iv:Value)(w:World)(s:bC)(xs:List NV)(nv lv:Value)(h:dY g ay iv w s xs nv lv)(c:s.ns.length≤N) :
  Calls Tryz.prog 175 #[.pointer (some ⟨g,0,none⟩),.int .i64 (b:Int),.int .i64 ((d:Int)+1)] w (lg g ay iv w xs nv (eF ay (bB ay d) b s)):=by
 have X:=O (aar ay d N hN hE hL hC);have e:=O (lsc_is ay d N hN hE hL hC);have h7:b % 7 < 7:=Nat.mod_lt _ (by decide);obtain a | a | a | a | a | a | a:b % 7=0∨b % 7=1∨b % 7=2∨b % 7=3∨b % 7=4∨b % 7=5∨b % 7=6:=by omega
 ·exact pl_if hN hd X b a (O h) c
 ·exact pl_let hN hd X b a (O h) c
 ·exact XE hN hd X e b a (O h) c
 ·exact Te hN hd X b a (O h) c
 ·exact Tp hN hd X b a (O h) c
 ·exact Tc hN hd X e b a (O h) c
 ·exact pl_rec ay d N hN hE hL hC b a g iv w s xs nv lv h c
theorem wE (hd:d≤100):abO ay (d+1) N:=by
 intro g i w s a l lv h G;have F:=BO d;by_cases h60:s.nx < 60
 ·rw [show bB ay (d+1) s=lF s.nx s.tl by rw [bB,if_pos h60]];exact Es ((d+1:Nat):Int) (by omega) g ay i w s a l lv h (by omega) s.nx h60 (.inr ⟨by omega,rfl⟩)
 have f:s.tl.ns.length≤N:=G;have D:=O (pl_op ay d N hN hE hL hC hd);have u:=O (XF ay d N hN hE hL hC hd);clear hE;have H:=O h;clear h;obtain⟨b,n⟩:∃ b,b=s.nx:=⟨_,rfl⟩;have E:=O (show bB ay (d+1) s=if b < 150 then CW ay (bB ay d) b s.tl else eF ay (bB ay d) b s.tl by rw [bB,if_neg h60,n]);rw [E.o];rw [← n] at h60
 have C:=O n;clear n;have K:¬ (b:Int) < 20:=by omega
 have L:¬ (b:Int) < 30:=by omega
 have M:¬ (b:Int) < 60:=by omega
 have P:¬ ((d:Int)+1≤0):=by omega
 by_cases A:b < 150
 ·rw [if_pos A];have m:(b:Int) < 150:=by omega
  rw [show ((d+1:Nat):Int)=(d:Int)+1 by omega];go_enter Tryz.func117,Tryz.ntmps117
  go_wp2_with fail;refine (bU g ay i _ s a l lv H.o).mono ?_;rintro e I⟨rfl,B,h1,j⟩;have r:=O h1;have v:=O (iL.Jv a j);clear h1 j H;rw [← C.o];go_wp2_with fail;refine (D.o b A g i _ s.tl a l B r.o f).mono ?_;rintro e J⟨rfl,c,y,q,h2,k⟩;have t:=O h2;have x:=O (v.o.trans k);clear h2 k;go_wp2_with fail;go_ret2
  exact⟨rfl,c,y,q,t.o,x.o⟩
 ·rw [if_neg A];have m:¬ (b:Int) < 150:=by omega
  rw [show ((d+1:Nat):Int)=(d:Int)+1 by omega];go_enter Tryz.func117,Tryz.ntmps117
  go_wp2_with fail;refine (bU g ay i _ s a l lv H.o).mono ?_;rintro e I⟨rfl,B,h1,j⟩;have r:=O h1;have v:=O (iL.Jv a j);clear h1 j H;rw [← C.o];go_wp2_with fail;refine (u.o b g i _ s.tl a l B r.o f).mono ?_;rintro e J⟨rfl,c,y,q,h2,k⟩;have t:=O h2;have x:=O (v.o.trans k);clear h2 k;go_wp2_with fail;go_ret2
  exact⟨rfl,c,y,q,t.o,x.o⟩
end
theorem OI (ay:Bool)(N:Nat)(hN:N≤950000):abO ay 0 N:=by
 intro g a w s c b lv h e;exact Es 0 (by omega) g ay a w s c b lv h (by omega) (s.nx % 60) (Nat.mod_lt _ (by decide)) (.inl ⟨rfl,rfl⟩)
theorem yg (ay:Bool):abO ay 3 800000 :=
 wE ay 2 _ (by omega) (wE ay 1 _ (by omega) (wE ay 0 _ (by omega) (OI ay _ (by omega)) (by decide) (by decide) (by decide)) (by decide) (by decide) (by decide)) (by decide) (by decide) (by decide)
theorem OD (ay:Bool):abO ay 4 750000:=wE ay 3 _ (by omega) (yg ay) (by decide) (by decide) (by decide)
end Go.Proofs.YthepmkjggfijoaaGreatDoor
