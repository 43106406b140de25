/-
  A part of the proof.
-/
import Derived.Test.YthepmkjggfijoaaGreatDoorSA
import Derived.Deep.RegionLaw
import Derived.Test.YthepmkjggfijoaaGreatDoorQ07
set_option linter.all false
set_option maxRecDepth 100000
set_option maxHeartbeats 4000000
open Go.Lib (hid)
namespace Go.Proofs.YthepmkjggfijoaaGreatDoor
open Go.RowKit Mist
theorem yT {W w':World}{cs:Array Value}{T:TypeId}(hb:Below (W.alloc (.cells cs T)).heap.size (W.alloc (.cells cs T)) w'):aC w' W.heap.size T cs:=(aC.new W T cs).below hb (by simp)
attribute [local go_sem] aj aH aS aB ak
theorem SV (s:Bs)(w:World)(he:(Mist.read s).2.2 ≠ 0)(hl:s.length≤100000000) :
  Calls Tryz.prog 18 #[.string (aM s)] w fun e w'=>e=.returned (.tuple #[.agg #[.slice none 0 0,.slice none 0 0],.int .i64 (Mist.read s).2.1,.int .i64 (Mist.read s).2.2])∧Below w.heap.size w w':=by
 obtain⟨E,hE⟩:∃ E,E=(Mist.read s).2.2:=⟨_,rfl⟩;rw [← hE] at he
 have HE:=hid hE;clear hE;have e0:((E:Int) == 0)=false:=by simpa using he
 clear he;go_in
 go_wp2_with fail;refine (Ep s _ hl).mono ?_;rintro e w2⟨v,rfl,ht,hb2⟩;rw [← HE.out];have HB2:=hid (yT hb2);have HL2:=hid ((ah (Below.refl w.heap.size w) (aaJ _) (o:=.cells #[.slice none 0 0,.slice none 0 0] 26)).trans (hb2.mono (by simp)));clear hb2 ht;have q0:=HB2.out.cell 0;have q1:=HB2.out.cell 1;have r0:=HB2.out.frozen 0;have r1:=HB2.out.frozen 1;go_wp2_with fail;have hz:=(HB2.out.d_ 0 (.slice none 0 0)).d_ 1 (.slice none 0 0);have z0:=hz.cell 0;have z1:=hz.cell 1;refine bodyPost_ret (v:=.tuple #[.agg #[.slice none 0 0,.slice none 0 0],.int .i64 (Mist.read s).2.1,.int .i64 E]) (by simp [results,Tryz.f18,go_sem,z0,z1]) rfl ⟨by rw [← HE.out],?_⟩
 repeat (first|(with_reducible exact HL2.out)|(with_reducible refine dx ?_ ?_) | omega)
theorem QS.start {w:World}{v:Value}{l:List Tok}(h:nC w v l):QS w.heap.size v l (.slice none 0 0) (w.alloc (.cells #[v,.int .i64 0,.slice none 0 0,.slice none 0 0,.bool false] 66)) ⟨0,false,[]⟩ [] (.slice none 0 0) :=
 ⟨aC.new w 66 _,World.ownsRow_nil _ _ _ _,fun _ hx=>(nomatch hx),UL h (ah (Below.refl _ _) (aaJ _)) (aaJ _),rfl,aaL _⟩
theorem SS (s:Bs)(l:List Tok)(n m:Nat)(its:List Int)(u:RS)(w:World)(hr:Mist.read s=(l,0,0))(hll:l.length≤1000)(hT:∀ t ∈ l,t.text.length≤100000000)(hp:nM l n m ⟨0,false,[]⟩ []=some (its,u))(hn:u.ns.length≤100000)(hb:u.bad=true)(hl:s.length≤100000000) :
  Calls Tryz.prog 18 #[.string (aM s)] w fun e w'=>e=.returned (.tuple #[.agg #[.slice none 0 0,.slice none 0 0],.int .i64 (pl l (s.length:Int) u.k),.int .i64 4])∧Below w.heap.size w w':=by
 have HR:=hid hr;clear hr;have HP:=hid hp;clear hp;go_in
 go_wp2_with fail;refine (Ep s _ hl).mono ?_;rintro e w2⟨v,rfl,ht,hb2⟩;rw [HR.out] at ht ⊢
 have HB2:=hid (yT hb2);have HL2:=hid ((ah (Below.refl w.heap.size w) (aaJ _) (o:=.cells #[.slice none 0 0,.slice none 0 0] 26)).trans (hb2.mono (by simp)));obtain⟨At,ct,rfl⟩:∃ At ct,v=.slice At l.length ct:=by obtain⟨A,c,e,_⟩:=ht;exact⟨A,c,e⟩
 have uM:=hid ht;clear hb2 ht;simp only
 have HB3:=hid (HB2.out.alloc (.cells #[.slice At l.length ct,.int .i64 0,.slice none 0 0,.slice none 0 0,.bool false] 66));have lS:=hid (ah HL2.out HL2.out.size (o:=.cells #[.slice At l.length ct,.int .i64 0,.slice none 0 0,.slice none 0 0,.bool false] 66));have HQ:=hid (QS.start uM.out);have hw2:=HB2.out.lt;have hw3:w.heap.size < (w2.alloc (.cells #[.slice At l.length ct,.int .i64 0,.slice none 0 0,.slice none 0 0,.bool false] 66)).heap.size:=HB3.out.lt;clear HB2;go_wp2_with fail;refine (aa4 l hll hT n w2.heap.size (.slice At l.length ct) _ _ _ _ its u m HP.out hn HQ.out).mono ?_;rintro e w4⟨rfl,A,c,xs,nv,hL,hQ,hM,Oz⟩;have tO:=hid (HB3.out.below (HQ.out.low hM.mv) hw2);have qx:=hid (lS.out.trans ((HQ.out.low hM.mv).mono (aaK hw2)));have Ji:=hid (hQ.toks.toks (aaK hQ.lt));have c1:=hQ.blk.cell 1;have c3:=hQ.blk.cell 4;rw [hb] at c3
 clear hL hQ hM HB3 lS HQ HP HR uM;obtain⟨k,hk⟩:∃ k,k=u.k:=⟨_,rfl⟩;rw [← hk] at c1
 have HKK:=hid hk;clear hk hb;have q0:=tO.out.cell 0;have q1:=tO.out.cell 1;have r0:=tO.out.frozen 0;have r1:=tO.out.frozen 1;by_cases hkl:k < l.length
 ·obtain⟨b,o,rfl,hrr⟩:=Ji.out.rowA (by omega);have t2:=hrr.at_ k hkl;have HPL:=hid (show pl l (s.length:Int) u.k=(tg l k).at_ by rw [← HKK.out];unfold pl;rw [if_pos hkl]);clear hrr;have e0:decide ((k:Int) < (l.length:Int))=true:=aaU (by omega);have e1:(0:Int)≤(k:Int):=by omega
  have e2:(k:Int) < (l.length:Int):=by omega
  go_wp2_with fail;go_region
  all_goals
   go_wp2_with fail;have hz:=(tO.out.d_ 0 (.slice none 0 0)).d_ 1 (.slice none 0 0);have z0:=hz.cell 0;have z1:=hz.cell 1;refine bodyPost_ret (v:=.tuple #[.agg #[.slice none 0 0,.slice none 0 0],.int .i64 (tg l k).at_,.int .i64 4]) (by simp [results,Tryz.f18,go_sem,z0,z1]) rfl ⟨by rw [HPL.out],?_⟩
   repeat (first|(with_reducible exact qx.out)|(with_reducible refine dx ?_ ?_)|(with_reducible refine Below.drew ?_) | omega)
 ·have HPL:=hid (show pl l (s.length:Int) u.k=(s.length:Int) by rw [← HKK.out];unfold pl;rw [if_neg hkl]);have e0:decide ((k:Int) < (l.length:Int))=false:=aaV (by omega);go_wp2_with fail;have hz:=(tO.out.d_ 0 (.slice none 0 0)).d_ 1 (.slice none 0 0);have z0:=hz.cell 0;have z1:=hz.cell 1;refine bodyPost_ret (v:=.tuple #[.agg #[.slice none 0 0,.slice none 0 0],.int .i64 (s.length:Int),.int .i64 4]) (by simp [results,Tryz.f18,go_sem,z0,z1]) rfl ⟨by rw [HPL.out],?_⟩
  repeat (first|(with_reducible exact qx.out)|(with_reducible refine dx ?_ ?_) | omega)
end Go.Proofs.YthepmkjggfijoaaGreatDoor
