/-
  A part of the proof.
-/
import Derived.Test.YtalghggmkojblaaGreatDoorS42
set_option linter.all false
set_option maxRecDepth 100000
set_option maxHeartbeats 4000000
namespace Go.Proofs.YtalghggmkojblaaGreatDoor
open Go.RowKit Mist
attribute [local go_sem] ak aN aV aF aj
theorem aiY {a:Bool}{d N:Nat}{E:Gs→Gr}(hN:N≤900000)(hd:d≤100)(X:Hid (XCg a E (N+50000) (.int .i64 (d:Int))))(b:Nat)(W:b % 7=0){g:Nat}{iv:Value}{w:World}{s:Gs}{xs:List NV}{nv lv:Value}(H:Hid (PL g a iv w s xs nv lv))(hn:s.ns.length≤N) :
  Calls Tryz.prog 61 #[.pointer (some ⟨g,0,none⟩),.int .i64 (b:Int),.int .i64 ((d:Int)+1)] w (mF g a iv w xs nv (jd a E b s)):=by
 have M:=O (Gw.refl (g:=g) (w:=w) (xs:=xs) (nv:=nv));have zd:IntKind.i64.wrap ((d:Int)+1 - 1)=(d:Int):=by rw [Int.add_sub_cancel];exact IntWalk.i64_in _ ⟨by omega,by omega⟩
 have Xr:Int.tmod (b:Int) 7=0:=by rw [Int.tmod_eq_emod_of_nonneg (by omega)];omega
 have Z:=O (show jd a E b s=ifG a E s.tl by unfold jd;simp only;rw [if_pos W]);go_in
 go_wp2_with fail;refine (BK H M).mono ?_;clear H M;rintro e w1⟨oH,rfl,q1,H,M,-⟩;go_wp2_with fail;refine (YZ (s.nx) _).mono ?_;rintro e w2⟨x,rfl,Hx,lx,rfl⟩;clear W;go_wp2_with fail;refine (Qu H M X (by omega)).mono ?_;clear H M;rintro e w3⟨n,f,xs3,Ll,XH,rfl,fU,HT3,O3,tl3,bn3,H,M,-⟩;go_wp2_with fail;refine (Qu H M X (by omega)).mono ?_;clear H M;rintro e w4⟨q,k,xs4,Ed,Tc,rfl,iw,KH,O4,tl4,bn4,H,M,-⟩;go_wp2_with fail;refine (Qu H M X (by omega)).mono ?_;clear H M;rintro e w5⟨l,B,xs5,Qx,lv5,rfl,kR,KI,O5,tl5,bn5,H,M,-⟩;go_wp2_with fail;refine (xD H M).mono ?_;clear H M;rintro e w6⟨c,lv6,rfl,r,gl6,q6,H,M,-⟩;have zM:¬ 9223372036854775807 < 2+c.length:=by omega
 have zN:¬ 9223372036854775807 < 2+c.length+f.length:=by omega
 go_wp2_with fail;refine (xD H M).mono ?_;clear H M;rintro e w7⟨h,lv7,rfl,u,gl7,q7,H,M,-⟩;clear zM zN;have zO:¬ 9223372036854775807 < 2+c.length:=by omega
 have zP:¬ 9223372036854775807 < 2+c.length+f.length:=by omega
 have zQ:¬ 9223372036854775807 < 2+c.length+f.length+h.length:=by omega
 have zR:¬ 9223372036854775807 < 2+c.length+f.length+h.length+4:=by omega
 go_wp2_with fail;refine (xD H M).mono ?_;clear H M;rintro e w8⟨i,lv8,rfl,v,gl8,q8,H,M,-⟩;clear zO zP zQ zR;have C:¬ 9223372036854775807 < 2+c.length:=by omega
 have D:¬ 9223372036854775807 < 2+c.length+f.length:=by omega
 have F:¬ 9223372036854775807 < 2+c.length+f.length+h.length:=by omega
 have G:¬ 9223372036854775807 < 2+c.length+f.length+h.length+4:=by omega
 have I:¬ 9223372036854775807 < 2+c.length+f.length+h.length+4+i.length:=by omega
 have J:¬ 9223372036854775807 < 2+c.length+f.length+h.length+4+i.length+k.length:=by omega
 go_wp2_with fail;refine (xD H M).mono ?_;clear H M;rintro e w9⟨j,lv9,rfl,y,MG,q9,H,M,-⟩;clear C D F G I J;have K:¬ 9223372036854775807 < 2+c.length:=by omega
 have L:¬ 9223372036854775807 < 2+c.length+f.length:=by omega
 have P:¬ 9223372036854775807 < 2+c.length+f.length+h.length:=by omega
 have Q:¬ 9223372036854775807 < 2+c.length+f.length+h.length+4:=by omega
 have R:¬ 9223372036854775807 < 2+c.length+f.length+h.length+4+i.length:=by omega
 have S:¬ 9223372036854775807 < 2+c.length+f.length+h.length+4+i.length+k.length:=by omega
 have T:¬ 9223372036854775807 < 2+c.length+f.length+h.length+4+i.length+k.length+j.length:=by omega
 have U:¬ 9223372036854775807 < 2+c.length+f.length+h.length+4+i.length+k.length+j.length+4:=by omega
 go_wp2_with fail;refine (xD H M).mono ?_;clear H M;rintro e w10⟨m,agL,rfl,ZO,ad2,q10,H,M,-⟩;clear K L P Q R S T U;have NQ:¬ 9223372036854775807 < 2+c.length:=by omega
 have NR:¬ 9223372036854775807 < 2+c.length+f.length:=by omega
 have Qt:¬ 9223372036854775807 < 2+c.length+f.length+h.length:=by omega
 have RN:¬ 9223372036854775807 < 2+c.length+f.length+h.length+4:=by omega
 have cq4:¬ 9223372036854775807 < 2+c.length+f.length+h.length+4+i.length:=by omega
 have cq5:¬ 9223372036854775807 < 2+c.length+f.length+h.length+4+i.length+k.length:=by omega
 have cq6:¬ 9223372036854775807 < 2+c.length+f.length+h.length+4+i.length+k.length+j.length:=by omega
 have cq7:¬ 9223372036854775807 < 2+c.length+f.length+h.length+4+i.length+k.length+j.length+4:=by omega
 have cq8:¬ 9223372036854775807 < 2+c.length+f.length+h.length+4+i.length+k.length+j.length+4+m.length:=by omega
 have cq9:¬ 9223372036854775807 < 2+c.length+f.length+h.length+4+i.length+k.length+j.length+4+m.length+B.length:=by omega
 go_wp2_with fail;obtain⟨Y,A⟩:∃ Y:Bs,Hid ([105,102] ++ c ++ f ++ h ++ [116,104,101,110] ++ i ++ k ++ j ++ [101,108,115,101] ++ m ++ B=Y):=⟨_,O rfl⟩;rw [show (⟨#[105,102]⟩:ByteArray) ++ aG (c) ++ aG (f) ++ aG (h) ++ (⟨#[116,104,101,110]⟩:ByteArray) ++ aG (i) ++ aG (k) ++ aG (j) ++ (⟨#[101,108,115,101]⟩:ByteArray) ++ aG (m) ++ aG (B)=aG Y from by rw [← A.o] <;> (simp only [← aj];rfl)];have lY:Y.length≤10000000:=by rw [← A.o];simp only [amQ,List.length_cons,List.length_nil];omega
 refine (smH H M (t:=Y) (by omega)).mono ?_;clear H M;rintro e w11⟨S11,aiE,rfl,V,q11,H,M⟩;go_wp2_with fail;refine (ptH H M [n.ix,q.ix,l.ix] (by simp) (by omega)).mono ?_;clear H M;rintro e w12⟨ak2,agP,rfl,H,M,-⟩;go_wp2_with fail;go_ret2
 have HF:=O (show ifG a E s.tl=d9 (mI a (([],3,[105,102]) :: (eO.on c n.pc ++ (h,3,[116,104,101,110]) :: (eO.on i q.pc ++ (j,3,[101,108,115,101]) :: eO.on m l.pc))) (aM a (aM a (aM a (aM a (aM a (l.st))))))) (kI a (aM a (aM a (aM a (aM a (aM a (l.st))))))) ⟨19,[],0,[n.ix,q.ix,l.ix],0⟩ from by
  unfold ifG
  try simp only
  rw [fU.o,iw.o,kR.o,r.o,u.o,v.o,y.o,ZO.o] <;> rfl)
 rw [Z.o,HF.o]
 refine⟨?_,_,_,_,H.o,M.o⟩
 show _=Ending.returned (.tuple #[.string (aG (ah (mI a (([],3,[105,102]) :: (eO.on c n.pc ++ (h,3,[116,104,101,110]) :: (eO.on i q.pc ++ (j,3,[101,108,115,101]) :: eO.on m l.pc))) (aM a (aM a (aM a (aM a (aM a (l.st))))))))),.int .i64 (kI a (aM a (aM a (aM a (aM a (aM a (l.st))))))).id])
 have HI:ah (([],3,[105,102]) :: (eO.on c n.pc ++ (h,3,[116,104,101,110]) :: (eO.on i q.pc ++ (j,3,[101,108,115,101]) :: eO.on m l.pc)))=Y:=by
  simp only [ah,aX,gu];rw [O3.o,O4.o,O5.o,← A.o] <;> simp only [List.nil_append,List.append_nil,List.append_assoc,List.cons_append]
 rw [qU,HI,V.o];rfl
theorem agV {a:Bool}{d N:Nat}{E:Gs→Gr}(hN:N≤900000)(hd:d≤100)(X:Hid (XCg a E (N+50000) (.int .i64 (d:Int))))(b:Nat)(K:b % 7=1){g:Nat}{iv:Value}{w:World}{s:Gs}{xs:List NV}{nv lv:Value}(H:Hid (PL g a iv w s xs nv lv))(hn:s.ns.length≤N) :
  Calls Tryz.prog 61 #[.pointer (some ⟨g,0,none⟩),.int .i64 (b:Int),.int .i64 ((d:Int)+1)] w (mF g a iv w xs nv (jd a E b s)):=by
 have M:=O (Gw.refl (g:=g) (w:=w) (xs:=xs) (nv:=nv));have zd:IntKind.i64.wrap ((d:Int)+1 - 1)=(d:Int):=by rw [Int.add_sub_cancel];exact IntWalk.i64_in _ ⟨by omega,by omega⟩
 have Xr:Int.tmod (b:Int) 7=1:=by rw [Int.tmod_eq_emod_of_nonneg (by omega)];omega
 have J:=O (show jd a E b s=OU a E (dD s.nx) s.tl by unfold jd;simp only;rw [if_neg (by omega)];rw [if_pos K]);go_in
 go_wp2_with fail;refine (BK H M).mono ?_;clear H M;rintro e w1⟨oH,rfl,q1,H,M,-⟩;go_wp2_with fail;refine (YZ (s.nx) _).mono ?_;rintro e w2⟨x,rfl,S,lx,rfl⟩;rw [S.o] at J
 clear K;go_wp2_with fail;refine (Qu H M X (by omega)).mono ?_;clear H M;rintro e w3⟨l,i,xs3,Ll,XH,rfl,fU,u,O3,tl3,W,H,M,-⟩;go_wp2_with fail;refine (Qu H M X (by omega)).mono ?_;clear H M;rintro e w4⟨j,y,xs4,Ed,Tc,rfl,iw,KH,T,tl4,Z,H,M,-⟩;go_wp2_with fail;refine (xD H M).mono ?_;clear H M;rintro e w5⟨c,lv5,rfl,L,gl5,q5,H,M,-⟩;have zM:¬ 9223372036854775807 < 3+c.length:=by omega
 have zN:¬ 9223372036854775807 < 3+c.length+x.length:=by omega
 go_wp2_with fail;refine (xD H M).mono ?_;clear H M;rintro e w6⟨f,lv6,rfl,m,gl6,q6,H,M,-⟩;clear zM zN;have zO:¬ 9223372036854775807 < 3+c.length:=by omega
 have zP:¬ 9223372036854775807 < 3+c.length+x.length:=by omega
 have zQ:¬ 9223372036854775807 < 3+c.length+x.length+f.length:=by omega
 have zR:¬ 9223372036854775807 < 3+c.length+x.length+f.length+1:=by omega
 have P:¬ 9223372036854775807 < 3+c.length+x.length+f.length+1+i.length:=by omega
 go_wp2_with fail;refine (xD H M).mono ?_;clear H M;rintro e w7⟨h,lv7,rfl,n,gl7,q7,H,M,-⟩;clear zO zP zQ zR P;have A:¬ 9223372036854775807 < 3+c.length:=by omega
 have B:¬ 9223372036854775807 < 3+c.length+x.length:=by omega
 have C:¬ 9223372036854775807 < 3+c.length+x.length+f.length:=by omega
 have D:¬ 9223372036854775807 < 3+c.length+x.length+f.length+1:=by omega
 have F:¬ 9223372036854775807 < 3+c.length+x.length+f.length+1+i.length:=by omega
 have G:¬ 9223372036854775807 < 3+c.length+x.length+f.length+1+i.length+h.length:=by omega
 have I:¬ 9223372036854775807 < 3+c.length+x.length+f.length+1+i.length+h.length+2:=by omega
 go_wp2_with fail;refine (xD H M).mono ?_;clear H M;rintro e w8⟨k,lv8,rfl,q,gl8,q8,H,M,-⟩;clear A B C D F G I;have NQ:¬ 9223372036854775807 < 3+c.length:=by omega
 have NR:¬ 9223372036854775807 < 3+c.length+x.length:=by omega
 have Qt:¬ 9223372036854775807 < 3+c.length+x.length+f.length:=by omega
 have RN:¬ 9223372036854775807 < 3+c.length+x.length+f.length+1:=by omega
 have cq4:¬ 9223372036854775807 < 3+c.length+x.length+f.length+1+i.length:=by omega
 have cq5:¬ 9223372036854775807 < 3+c.length+x.length+f.length+1+i.length+h.length:=by omega
 have cq6:¬ 9223372036854775807 < 3+c.length+x.length+f.length+1+i.length+h.length+2:=by omega
 have cq7:¬ 9223372036854775807 < 3+c.length+x.length+f.length+1+i.length+h.length+2+k.length:=by omega
 have cq8:¬ 9223372036854775807 < 3+c.length+x.length+f.length+1+i.length+h.length+2+k.length+y.length:=by omega
 go_wp2_with fail;obtain⟨Y,v⟩:∃ Y:Bs,Hid ([108,101,116] ++ c ++ x ++ f ++ [61] ++ i ++ h ++ [105,110] ++ k ++ y=Y):=⟨_,O rfl⟩;rw [show (⟨#[108,101,116]⟩:ByteArray) ++ aG (c) ++ aG (x) ++ aG (f) ++ (⟨#[61]⟩:ByteArray) ++ aG (i) ++ aG (h) ++ (⟨#[105,110]⟩:ByteArray) ++ aG (k) ++ aG (y)=aG Y from by rw [← v.o] <;> (simp only [← aj];rfl)];have lY:Y.length≤10000000:=by rw [← v.o];simp only [amQ,List.length_cons,List.length_nil];omega
 refine (smH H M (t:=Y) (by omega)).mono ?_;clear H M;rintro e w9⟨S9,lv9,rfl,r,q9,H,M⟩;go_wp2_with fail;refine (ptH H M [l.ix,j.ix] (by simp) (by omega)).mono ?_;clear H M;rintro e w10⟨V,U,rfl,H,M,-⟩;go_wp2_with fail;go_ret2
 have Q:=O (show OU a E x s.tl=d9 (mI a (([],3,[108,101,116]) :: (c,1,x) :: (f,4,[61]) :: (l.pc ++ (h,3,[105,110]) :: eO.on k j.pc)) (aM a (aM a (aM a (aM a (j.st)))))) (kI a (aM a (aM a (aM a (aM a (j.st)))))) ⟨20,x,0,[l.ix,j.ix],0⟩ from by
  unfold OU
  try simp only
  rw [fU.o,iw.o,L.o,m.o,n.o,q.o] <;> rfl)
 rw [J.o,Q.o]
 refine⟨?_,_,_,_,H.o,M.o⟩
 show _=Ending.returned (.tuple #[.string (aG (ah (mI a (([],3,[108,101,116]) :: (c,1,x) :: (f,4,[61]) :: (l.pc ++ (h,3,[105,110]) :: eO.on k j.pc)) (aM a (aM a (aM a (aM a (j.st)))))))),.int .i64 (kI a (aM a (aM a (aM a (aM a (j.st)))))).id])
 have R:ah (([],3,[108,101,116]) :: (c,1,x) :: (f,4,[61]) :: (l.pc ++ (h,3,[105,110]) :: eO.on k j.pc))=Y:=by
  simp only [ah,aX,gu];rw [T.o,u.o,← v.o] <;> simp only [List.nil_append,List.append_nil,List.append_assoc,List.cons_append]
 rw [qU,R,r.o];rfl
theorem acC {a:Bool}{d N:Nat}{E:Gs→Gr}(U:N≤900000)(hd:d≤100)(X:Hid (XCg a E (N+50000) (.int .i64 (d:Int))))(b:Nat)(l:b % 7=3){g:Nat}{iv:Value}{w:World}{s:Gs}{xs:List NV}{nv lv:Value}(H:Hid (PL g a iv w s xs nv lv))(V:s.ns.length≤N) :
  Calls Tryz.prog 61 #[.pointer (some ⟨g,0,none⟩),.int .i64 (b:Int),.int .i64 ((d:Int)+1)] w (mF g a iv w xs nv (jd a E b s)):=by
 have M:=O (Gw.refl (g:=g) (w:=w) (xs:=xs) (nv:=nv));have zd:IntKind.i64.wrap ((d:Int)+1 - 1)=(d:Int):=by rw [Int.add_sub_cancel];exact IntWalk.i64_in _ ⟨by omega,by omega⟩
 have S:Int.tmod (b:Int) 7=3:=by rw [Int.tmod_eq_emod_of_nonneg (by omega)];omega
 have k:=O (show jd a E b s=vO a E (dD s.nx) s.tl by unfold jd;simp only;rw [if_neg (by omega)];rw [if_neg (by omega)];rw [if_neg (by omega)];rw [if_pos l]);go_in
 go_wp2_with fail;refine (BK H M).mono ?_;clear H M;rintro e w1⟨oH,rfl,q1,H,M,-⟩;go_wp2_with fail;refine (YZ (s.nx) _).mono ?_;rintro e w2⟨x,rfl,q,Z,rfl⟩;rw [q.o] at k
 clear l;go_wp2_with fail;refine (Qu H M X (by omega)).mono ?_;clear H M;rintro e w3⟨h,c,C,F,R,rfl,v,i,J,A,t,H,M,-⟩;have y:¬ 9223372036854775807 < 1+c.length:=by omega
 have B:¬ 9223372036854775807 < 1+c.length+1:=by omega
 go_wp2_with fail;refine (xD H M).mono ?_;clear H M;rintro e w4⟨f,Q,rfl,r,T,q4,H,M,-⟩;clear y B;have G:¬ 9223372036854775807 < 1+c.length:=by omega
 have I:¬ 9223372036854775807 < 1+c.length+1:=by omega
 have K:¬ 9223372036854775807 < 1+c.length+1+f.length:=by omega
 have P:¬ 9223372036854775807 < 1+c.length+1+f.length+1:=by omega
 have u:¬ 9223372036854775807 < 1+c.length+1+f.length+1+x.length:=by omega
 go_wp2_with fail;obtain⟨Y,j⟩:∃ Y:Bs,Hid ([40] ++ c ++ [41] ++ f ++ [46] ++ x=Y):=⟨_,O rfl⟩;rw [show (⟨#[40]⟩:ByteArray) ++ aG (c) ++ (⟨#[41]⟩:ByteArray) ++ aG (f) ++ (⟨#[46]⟩:ByteArray) ++ aG (x)=aG Y from by rw [← j.o] <;> (simp only [← aj];rfl)];have W:Y.length≤10000000:=by rw [← j.o];simp only [amQ,List.length_cons,List.length_nil];omega
 refine (ptH H M [h.ix] (by simp) (by omega)).mono ?_;clear H M;rintro e w5⟨D,L,rfl,H,M,-⟩;go_wp2_with fail;go_ret2
 have m:=O (show vO a E x s.tl=d9 (gu [40] :: (h.pc ++ [gu [41],(f,4,[46]),([],1,x)])) (aM a (h.st)) ⟨22,x,0,[h.ix],0⟩ from by
  unfold vO
  try simp only
  rw [v.o,r.o] <;> rfl)
 rw [k.o,m.o]
 refine⟨?_,_,_,_,H.o,M.o⟩
 show _=Ending.returned (.tuple #[.string (aG (ah ((gu [40] :: (h.pc ++ [gu [41],(f,4,[46]),([],1,x)]))))),.int .i64 (aM a (h.st)).id])
 have n:ah (gu [40] :: (h.pc ++ [gu [41],(f,4,[46]),([],1,x)]))=Y:=by
  simp only [ah,aX,gu];rw [i.o,← j.o] <;> simp only [List.nil_append,List.append_nil,List.append_assoc,List.cons_append]
 rw [n];rfl
theorem acD {a:Bool}{d N:Nat}{E:Gs→Gr}(hN:N≤900000)(hd:d≤100)(X:Hid (XCg a E (N+50000) (.int .i64 (d:Int))))(b:Nat)(n:b % 7=4){g:Nat}{iv:Value}{w:World}{s:Gs}{xs:List NV}{nv lv:Value}(H:Hid (PL g a iv w s xs nv lv))(hn:s.ns.length≤N) :
  Calls Tryz.prog 61 #[.pointer (some ⟨g,0,none⟩),.int .i64 (b:Int),.int .i64 ((d:Int)+1)] w (mF g a iv w xs nv (jd a E b s)):=by
 have M:=O (Gw.refl (g:=g) (w:=w) (xs:=xs) (nv:=nv));have zd:IntKind.i64.wrap ((d:Int)+1 - 1)=(d:Int):=by rw [Int.add_sub_cancel];exact IntWalk.i64_in _ ⟨by omega,by omega⟩
 have Xr:Int.tmod (b:Int) 7=4:=by rw [Int.tmod_eq_emod_of_nonneg (by omega)];omega
 have r:=O (show jd a E b s=vQ a E s.tl by unfold jd;simp only;rw [if_neg (by omega)];rw [if_neg (by omega)];rw [if_neg (by omega)];rw [if_neg (by omega)];rw [if_pos n]);go_in
 go_wp2_with fail;refine (BK H M).mono ?_;clear H M;rintro e w1⟨oH,rfl,q1,H,M,-⟩;go_wp2_with fail;refine (YZ (s.nx) _).mono ?_;rintro e w2⟨x,rfl,T,lx,rfl⟩;clear n;go_wp2_with fail;refine (Qu H M X (by omega)).mono ?_;clear H M;rintro e w3⟨j,c,P,U,XH,rfl,C,k,Z,J,y,H,M,-⟩;go_wp2_with fail;refine (Qu H M X (by omega)).mono ?_;clear H M;rintro e w4⟨h,i,Q,S,Tc,rfl,F,v,O4,K,A,H,M,-⟩;have I:¬ 9223372036854775807 < 1+c.length:=by omega
 have L:¬ 9223372036854775807 < 1+c.length+2:=by omega
 have m:¬ 9223372036854775807 < 1+c.length+2+i.length:=by omega
 go_wp2_with fail;refine (xD H M).mono ?_;clear H M;rintro e w5⟨f,G,rfl,q,D,q5,H,M,-⟩;clear I L m;have V:¬ 9223372036854775807 < 1+c.length:=by omega
 have W:¬ 9223372036854775807 < 1+c.length+2:=by omega
 have Qt:¬ 9223372036854775807 < 1+c.length+2+i.length:=by omega
 have RN:¬ 9223372036854775807 < 1+c.length+2+i.length+f.length:=by omega
 have B:¬ 9223372036854775807 < 1+c.length+2+i.length+f.length+1:=by omega
 go_wp2_with fail;obtain⟨Y,l⟩:∃ Y:Bs,Hid ([40] ++ c ++ [41,91] ++ i ++ f ++ [93]=Y):=⟨_,O rfl⟩;rw [show (⟨#[40]⟩:ByteArray) ++ aG (c) ++ (⟨#[41,91]⟩:ByteArray) ++ aG (i) ++ aG (f) ++ (⟨#[93]⟩:ByteArray)=aG Y from by rw [← l.o] <;> (simp only [← aj];rfl)];have lY:Y.length≤10000000:=by rw [← l.o];simp only [amQ,List.length_cons,List.length_nil];omega
 refine (ptH H M [j.ix,h.ix] (by simp) (by omega)).mono ?_;clear H M;rintro e w6⟨R,Tn,rfl,H,M,-⟩;go_wp2_with fail;go_ret2
 have t:=O (show vQ a E s.tl=d9 (gu [40] :: (j.pc ++ gu [41] :: gu [91] :: (h.pc ++ [(f,4,[93])]))) (aM a (h.st)) ⟨23,[],0,[j.ix,h.ix],0⟩ from by
  unfold vQ
  try simp only
  rw [C.o,F.o,q.o] <;> rfl)
 rw [r.o,t.o]
 refine⟨?_,_,_,_,H.o,M.o⟩
 show _=Ending.returned (.tuple #[.string (aG (ah ((gu [40] :: (j.pc ++ gu [41] :: gu [91] :: (h.pc ++ [(f,4,[93])])))))),.int .i64 (aM a (h.st)).id])
 have u:ah (gu [40] :: (j.pc ++ gu [41] :: gu [91] :: (h.pc ++ [(f,4,[93])])))=Y:=by
  simp only [ah,aX,gu];rw [k.o,v.o,← l.o] <;> simp only [List.nil_append,List.append_nil,List.append_assoc,List.cons_append]
 rw [u];rfl
theorem aeV {a:Bool}{d N:Nat}{E:Gs→Gr}(hN:N≤900000)(hd:d≤100)(X:Hid (XCg a E (N+50000) (.int .i64 (d:Int))))(B:Hid (LsC a E N (.int .i64 ((d:Int)+1))))(b:Nat)(r:b % 7=2){g:Nat}{iv:Value}{w:World}{s:Gs}{xs:List NV}{nv lv:Value}(H:Hid (PL g a iv w s xs nv lv))(hn:s.ns.length≤N) :
  Calls Tryz.prog 61 #[.pointer (some ⟨g,0,none⟩),.int .i64 (b:Int),.int .i64 ((d:Int)+1)] w (mF g a iv w xs nv (jd a E b s)):=by
 have M:=O (Gw.refl (g:=g) (w:=w) (xs:=xs) (nv:=nv));have zd:IntKind.i64.wrap ((d:Int)+1 - 1)=(d:Int):=by rw [Int.add_sub_cancel];exact IntWalk.i64_in _ ⟨by omega,by omega⟩
 have Xr:Int.tmod (b:Int) 7=2:=by rw [Int.tmod_eq_emod_of_nonneg (by omega)];omega
 have q:=O (show jd a E b s=D5 a E (dD s.nx) s.tl by unfold jd;simp only;rw [if_neg (by omega)];rw [if_neg (by omega)];rw [if_pos r]);go_in
 go_wp2_with fail;refine (BK H M).mono ?_;clear H M;rintro e w1⟨oH,rfl,q1,H,M,-⟩;go_wp2_with fail;refine (YZ (s.nx) _).mono ?_;rintro e w2⟨x,rfl,y,lx,rfl⟩;rw [y.o] at q
 clear r;obtain⟨n,k⟩:∃ m,m=(s.tl).nx % 4:=⟨_,rfl⟩;have S:Int.tmod ((s.tl).nx:Int) 4=(n:Int):=by rw [Int.tmod_eq_emod_of_nonneg (by omega),k];omega
 have j:=O k.symm;have C:n≤3:=by omega
 clear k;go_wp2_with fail;refine (BK H M).mono ?_;clear H M;rintro e w3⟨XH,rfl,q3,H,M,-⟩;go_wp2_with fail;refine (lsH H M X B (m:=n) (by omega) (by omega)).mono ?_;clear H M;rintro e w4⟨h,f,T,c4,P,U,Tc,rfl,G,A,Z,Z4,K,D,l,H,M,-⟩;have J:¬ 9223372036854775807 < x.length+1:=by omega
 have L:¬ 9223372036854775807 < x.length+1+f.length:=by omega
 go_wp2_with fail;refine (xD H M).mono ?_;clear H M;rintro e w5⟨c,I,rfl,t,F,q5,H,M,R⟩
 replace l:=kp R l
 clear R;clear J L;have V:¬ 9223372036854775807 < x.length+1:=by omega
 have W:¬ 9223372036854775807 < x.length+1+f.length:=by omega
 have Qt:¬ 9223372036854775807 < x.length+1+f.length+c.length:=by omega
 have RN:¬ 9223372036854775807 < x.length+1+f.length+c.length+1:=by omega
 go_wp2_with fail;obtain⟨Y,i⟩:∃ Y:Bs,Hid (x ++ [40] ++ f ++ c ++ [41]=Y):=⟨_,O rfl⟩;rw [show aG (x) ++ (⟨#[40]⟩:ByteArray) ++ aG (f) ++ aG (c) ++ (⟨#[41]⟩:ByteArray)=aG Y from by rw [← i.o] <;> (simp only [← aj];rfl)];have lY:Y.length≤10000000:=by rw [← i.o];simp only [amQ,List.length_cons,List.length_nil];omega
 refine (ptL H M l (by omega)).mono ?_;clear H M;rintro e w6⟨Q,Tn,rfl,H,M,-⟩;go_wp2_with fail;go_ret2
 have u:=O (show D5 a E x s.tl=d9 (([],1,x) :: gu [40] :: (h.pc ++ [(c,4,[41])])) (aM a (h.st)) ⟨21,x,0,h.ix,0⟩ from by
  unfold D5
  try simp only
  rw [j.o,G.o,t.o] <;> rfl)
 rw [q.o,u.o]
 refine⟨?_,_,_,_,H.o,M.o⟩
 show _=Ending.returned (.tuple #[.string (aG (ah ((([],1,x) :: gu [40] :: (h.pc ++ [(c,4,[41])]))))),.int .i64 (aM a (h.st)).id])
 have v:ah (([],1,x) :: gu [40] :: (h.pc ++ [(c,4,[41])]))=Y:=by
  simp only [ah,aX,gu];rw [A.o,← i.o] <;> simp only [List.nil_append,List.append_nil,List.append_assoc,List.cons_append]
 rw [v];rfl
theorem acB {a:Bool}{d N:Nat}{E:Gs→Gr}(hN:N≤900000)(hd:d≤100)(X:Hid (XCg a E (N+50000) (.int .i64 (d:Int))))(y:Hid (LsC a E N (.int .i64 ((d:Int)+1))))(b:Nat)(q:b % 7=5){g:Nat}{iv:Value}{w:World}{s:Gs}{xs:List NV}{nv lv:Value}(H:Hid (PL g a iv w s xs nv lv))(hn:s.ns.length≤N) :
  Calls Tryz.prog 61 #[.pointer (some ⟨g,0,none⟩),.int .i64 (b:Int),.int .i64 ((d:Int)+1)] w (mF g a iv w xs nv (jd a E b s)):=by
 have M:=O (Gw.refl (g:=g) (w:=w) (xs:=xs) (nv:=nv));have zd:IntKind.i64.wrap ((d:Int)+1 - 1)=(d:Int):=by rw [Int.add_sub_cancel];exact IntWalk.i64_in _ ⟨by omega,by omega⟩
 have Xr:Int.tmod (b:Int) 7=5:=by rw [Int.tmod_eq_emod_of_nonneg (by omega)];omega
 have t:=O (show jd a E b s=vE a E s.tl by unfold jd;simp only;rw [if_neg (by omega)];rw [if_neg (by omega)];rw [if_neg (by omega)];rw [if_neg (by omega)];rw [if_neg (by omega)];rw [if_pos q]);go_in
 go_wp2_with fail;refine (BK H M).mono ?_;clear H M;rintro e w1⟨oH,rfl,q1,H,M,-⟩;go_wp2_with fail;refine (YZ (s.nx) _).mono ?_;rintro e w2⟨x,rfl,T,lx,rfl⟩;clear q;obtain⟨h,l⟩:∃ m,m=(s.tl).nx % 4:=⟨_,rfl⟩;have P:Int.tmod ((s.tl).nx:Int) 4=(h:Int):=by rw [Int.tmod_eq_emod_of_nonneg (by omega),l];omega
 have k:=O l.symm;have B:h≤3:=by omega
 clear l;have L:IntKind.i64.wrap (1+(h:Int))=((1+h:Nat):Int):=by rw [IntWalk.i64_in _ (by omega)];omega
 go_wp2_with fail;refine (BK H M).mono ?_;clear H M;rintro e w3⟨XH,rfl,q3,H,M,-⟩;go_wp2_with fail;refine (lsH H M X y (m:=1+h) (by omega) (by omega)).mono ?_;clear H M;rintro e w4⟨f,i,Q,c4,J,S,Tc,rfl,F,U,A,Z4,I,C,n,H,M,-⟩;go_wp2_with fail;refine (xD H M).mono ?_;clear H M;rintro e w5⟨c,G,rfl,r,D,q5,H,M,R⟩
 replace n:=kp R n
 clear R;have V:¬ 9223372036854775807 < 1+c.length:=by omega
 have W:¬ 9223372036854775807 < 1+c.length+i.length:=by omega
 have Z:¬ 9223372036854775807 < 1+c.length+i.length+1:=by omega
 go_wp2_with fail;obtain⟨Y,j⟩:∃ Y:Bs,Hid ([91] ++ c ++ i ++ [93]=Y):=⟨_,O rfl⟩;rw [show (⟨#[91]⟩:ByteArray) ++ aG (c) ++ aG (i) ++ (⟨#[93]⟩:ByteArray)=aG Y from by rw [← j.o] <;> (simp only [← aj];rfl)];have lY:Y.length≤10000000:=by rw [← j.o];simp only [amQ,List.length_cons,List.length_nil];omega
 refine (ptL H M n (by omega)).mono ?_;clear H M;rintro e w6⟨K,Tn,rfl,H,M,-⟩;go_wp2_with fail;go_ret2
 have u:=O (show vE a E s.tl=d9 (gu [91] :: (eO.on c f.pc ++ [gu [93]])) (aM a (f.st)) ⟨26,[],0,f.ix,0⟩ from by
  unfold vE
  try simp only
  rw [k.o,F.o,r.o] <;> rfl)
 rw [t.o,u.o]
 refine⟨?_,_,_,_,H.o,M.o⟩
 show _=Ending.returned (.tuple #[.string (aG (ah ((gu [91] :: (eO.on c f.pc ++ [gu [93]]))))),.int .i64 (aM a (f.st)).id])
 have v:ah (gu [91] :: (eO.on c f.pc ++ [gu [93]]))=Y:=by
  simp only [ah,aX,gu];rw [A.o (by omega),← j.o] <;> simp only [List.nil_append,List.append_nil,List.append_assoc,List.cons_append]
 rw [v];rfl
