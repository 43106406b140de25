/-
  PARTS of the proof: RRT.
-/
import Derived.Deep.QuietTactic
import Derived.BigRegion
import Derived.Deep.CutRange
import Derived.Deep.RegionHeld3
import Derived.Test.YthepmkjggfijoaaGreatDoorB21
import Derived.Test.YthepmkjggfijoaaGreatDoorB08
import Derived.Test.YthepmkjggfijoaaGreatDoorB27
import Derived.Test.YthepmkjggfijoaaGreatDoorG01
set_option linter.all false
set_option maxRecDepth 100000
set_option maxHeartbeats 16000000
open Go.Lib (hid)
namespace Go.Proofs.YthepmkjggfijoaaGreatDoor
open Go.RowKit Mist
attribute [local go_sem] ofL_extract ofL_size ofL_get ofL_bytes ofL_append
def anyK (k:Nat):Bool:=isExpr k || k == 25 || isTyp k || k == 34 || isItem k
def ownR (x:Nd):Bool:=(namedK x.kind == isName x.text) && (namedK x.kind || x.text.isEmpty) && manyK x && numberK x && within x.at_ 0 2000
def kidR (T:Tr)(x:Nd)(j:Nat):Bool:=kidK x j (nd T (x.kids.getD j 0).toNat).kind && !((nd T (x.kids.getD j 0).toNat).kind == 1 && decide ((nd T (x.kids.getD j 0).toNat).n < 0) && !(x.kind == 40))
theorem rightK_parts (T:Tr)(i:Nat):rightK T i=(anyK (nd T i).kind && ownR (nd T i) && (List.range (nd T i).kids.length).all (kidR T (nd T i))):=by
 unfold rightK anyK ownR kidR
 simp only [Bool.and_assoc]
section
variable {P:Program} {md:Region.Mode} {l:List Oper} {Q:Exit→Act→World→Prop} {S:World→Prop} {oi:Oper} {fuel:Nat} {listed:Array Bool} {a:Act} {w:World}
theorem takeY (i:Nat)(hi:l[i]? = some oi){v:Value}(hy:Region.wanted oi (yielded l.toArray a.tmps)=true∧∀ w,S w→(execOp a.eval oi).run P w=.ok (.value v) w)(hS:S w)
  (h:wpAnyH P md l.toArray Q S fuel (listed.setIfInBounds i true) (a.put oi.dst v) w) (hs:Region.noSelect l.toArray=true:=by kernel_rfl) (hf:Region.free md l.toArray listed i=true:=by kernel_rfl) (hr:(Region.ready md l.toArray listed).contains i=true:=by kernel_rfl)
  (hQ:∀ c a w,Q (.panic c) (a.put oi.dst v) w→Q (.panic c) a w:=by exact fun _ _ _ h=>h):wpAnyH P md l.toArray Q S (fuel+1) listed a w :=
 wpAnyH_take (by simpa using hi) hs hf hr hQ (Or.inl hy) hS h
theorem takeN (i:Nat)(hi:l[i]? = some oi)(hy:Region.wanted oi (yielded l.toArray a.tmps)=false)(hS:S w)
  (h:wpAnyH P md l.toArray Q S fuel (listed.setIfInBounds i true) (a.put oi.dst undef) w) (hs:Region.noSelect l.toArray=true:=by kernel_rfl) (hf:Region.free md l.toArray listed i=true:=by kernel_rfl) (hr:(Region.ready md l.toArray listed).contains i=true:=by kernel_rfl)
  (hQ:∀ c a w,Q (.panic c) (a.put oi.dst undef) w→Q (.panic c) a w:=by exact fun _ _ _ h=>h):wpAnyH P md l.toArray Q S (fuel+1) listed a w :=
 wpAnyH_take (by simpa using hi) hs hf hr hQ (Or.inr ⟨hy,rfl⟩) hS h
theorem readyI (i:Nat)(hi:l[i]? = some oi)
  (h:∀ K':Act→World→Prop,Shut (∀ a w,S w→(S w→wpAnyH P md l.toArray Q S fuel (listed.setIfInBounds i true) a w)→K' a w)→if Region.wanted oi (yielded l.toArray a.tmps)=true then Oper.wp P oi a w K' Q else K' (a.put oi.dst undef) w) :
  AllReadyH P md l.toArray Q S fuel listed a w [i]:=AllReadyH.cons (by simpa using hi) h AllReadyH.nil
end
theorem right_any (A B:Option Addr)(c m d i:Nat)(xs:List NV)(its:List Int)(x:NV)(w:World)(hT:TAt w A B xs its)(hx:xs[i]? = some x)(hn:xs.length≤10000)(hk:∀ k ∈ x.1.kids,0≤k∧k < xs.length)(hl:x.1.text.length≤100000000) :
  Calls Tryz.prog 108 #[.agg #[.slice A xs.length c,.slice B m d],.int .i64 i] w fun e w'=>e=.returned (.bool (rightK ⟨nds xs,its⟩ i))∧Below w.heap.size w w':=by
 have HRK:=hid (rightK_parts ⟨nds xs,its⟩ i)
 rw [nd_nds its hx] at HRK
 have hil:i < xs.length:=(List.getElem?_eq_some_iff.1 hx).1
 obtain⟨n,hnn⟩:∃ n,n=xs.length:=⟨_,rfl⟩
 rw [← hnn] at hn hk hil ⊢
 have HN:=hid hnn;clear hnn
 have HK:=hid hk;clear hk
 have HT:=hid hT;clear hT
 have HX:=hid hx
 obtain⟨b,o,rfl,hA⟩:=HT.out.nodes (by rw [← HN.out];omega)
 have c0:=hA.c0 i x hx
 have c1:=hA.c1 i x hx
 have c2:=hA.c2 i x hx
 have c3:=hA.c3 i x hx
 have c4:=hA.c4 i x hx
 have hbl:=hA.lt
 obtain⟨Ka,ca,hxe,hxl,hxk⟩:=hA.kid hx
 rw [hxe] at c3
 have HXK:=hid hxk
 have HA:=hid hA
 clear hA hx hxe hxk
 obtain⟨⟨k,tx,nn,ks,at_⟩,xv⟩:=x
 have HKS:=hid (show ∃ nk,nk=ks.length from ⟨_,rfl⟩)
 obtain⟨nk,hnk⟩:=HKS.out
 clear HKS
 simp only at c0 c1 c2 c3 c4 hxl hl HK HXK
 rw [← hnk] at c3 hxl
 have HNK:=hid hnk;clear hnk
 have z0:(0:Int)≤(i:Int):=by omega
 have z1:(i:Int) < (n:Int):=by omega
 go_enter Tryz.func108,Tryz.ntmps108
 go_upto_region 2 with (fail)
 have HB0:=hid ((Blk.new w 26 #[.slice (some ⟨b,o,none⟩) n c,.slice B m d]).alloc (.cells #[.int .u8 k,.string (ofL tx),.int .i64 nn,.slice Ka nk ca,.int .i64 at_] 50))
 have HP0:=hid (blk_topW (W:=w.alloc (.cells #[.slice (some ⟨b,o,none⟩) n c,.slice B m d] 26)) (T:=50) (cs:=#[.int .u8 k,.string (ofL tx),.int .i64 nn,.slice Ka nk ca,.int .i64 at_]) (k:=w.heap.size+1) (by simp))
 have HL0:=hid (balloc (balloc (Below.refl w.heap.size w) (Nat.le_refl _) (o:=.cells #[.slice (some ⟨b,o,none⟩) n c,.slice B m d] 26)) (by simp) (o:=.cells #[.int .u8 k,.string (ofL tx),.int .i64 nn,.slice Ka nk ca,.int .i64 at_] 50))
 go_cut [38] (fun v wx=>v=.bool (!anyK k)∧Hid (Blk wx w.heap.size 26 #[.slice (some ⟨b,o,none⟩) n c,.slice B m d])∧Hid (Blk wx (w.heap.size+1) 50 #[.int .u8 k,.string (ofL tx),.int .i64 nn,.slice Ka nk ca,.int .i64 at_])∧Hid (Below w.heap.size w wx))
 case first =>
  have fin:∀ b:Bool,anyK k=b→Value.bool (!b)=Value.bool (!anyK k):=fun b h=>by rw [h]
  have HRE:=hid (rexpr_any k)
  have HRT:=hid (rtype_any k)
  have HRI:=hid (ritem_any k)
  have HAK:=hid (show anyK k=(isExpr k || k == 25 || isTyp k || k == 34 || isItem k) from rfl)
  cases e1:isExpr k
  case true =>
   rw [e1] at HRE HAK
   go_wp2_with (go_at_call 71;refine (HRE.out _).mono ?_;rintro e w' ⟨rfl,rfl⟩)
   go_meet
   exact⟨fin true HAK.out,HB0,HP0,HL0⟩
  rw [e1] at HRE HAK
  by_cases h25:k=25
  ·have e2:((k:Int) != 25)=false:=by simp [h25]
   have HA:=hid (show anyK k=true by rw [HAK.out];simp [h25])
   clear h25
   go_wp2_with (go_at_call 71;refine (HRE.out _).mono ?_;rintro e w' ⟨rfl,rfl⟩)
   go_meet
   exact⟨fin true HA.out,HB0,HP0,HL0⟩
  have e2:((k:Int) != 25)=true:=by simp;omega
  cases e3:isTyp k
  case true =>
   rw [e3] at HRT
   have HA:=hid (show anyK k=true by rw [HAK.out,e3];simp)
   go_wp2_with (first|(go_at_call 71;refine (HRE.out _).mono ?_;rintro e w' ⟨rfl,rfl⟩)|(go_at_call 168;refine (HRT.out _).mono ?_;rintro e w' ⟨rfl,rfl⟩))
   go_meet
   exact⟨fin true HA.out,HB0,HP0,HL0⟩
  rw [e3] at HRT
  by_cases h34:k=34
  ·have e4:((k:Int) != 34)=false:=by simp [h34]
   have HA:=hid (show anyK k=true by rw [HAK.out];simp [h34])
   clear h34
   go_wp2_with (first|(go_at_call 71;refine (HRE.out _).mono ?_;rintro e w' ⟨rfl,rfl⟩)|(go_at_call 168;refine (HRT.out _).mono ?_;rintro e w' ⟨rfl,rfl⟩))
   go_meet
   exact⟨fin true HA.out,HB0,HP0,HL0⟩
  have e4:((k:Int) != 34)=true:=by simp;omega
  cases e5:isItem k
  all_goals
   rw [e5] at HRI
   have HA:=hid (show anyK k=_ by rw [HAK.out,e3,e5,show (k == 25)=false by simp [h25],show (k == 34)=false by simp [h34]])
   go_wp2_with (first|(go_at_call 71;refine (HRE.out _).mono ?_;rintro e w' ⟨rfl,rfl⟩)|(go_at_call 168;refine (HRT.out _).mono ?_;rintro e w' ⟨rfl,rfl⟩)|(go_at_call 109;refine (HRI.out _).mono ?_;rintro e w' ⟨rfl,rfl⟩))
   go_meet
   exact⟨fin _ HA.out,HB0,HP0,HL0⟩
 case rest =>
  obtain⟨rfl,HB,HP,HL⟩:=hcut
  clear HB0 HP0 HL0 c0 c1 c2 c3 c4
  cases hany:anyK k
  ·have HF:=hid (show rightK ⟨nds xs,its⟩ i=false by rw [HRK.out,hany];rfl)
   go_wp2_with fail
   go_ret
   exact⟨by rw [HF.out];rfl,HL.out⟩
  have HAN:=hid hany;clear hany
  go_upto_region 4 with (fail)
  have q0:=HP.out.cell 0
  have q1:=HP.out.cell 1
  have q2:=HP.out.cell 2
  have q3:=HP.out.cell 3
  have q4:=HP.out.cell 4
  go_cut [76] (fun v wx=>v=.bool (!ownR ⟨k,tx,nn,ks,at_⟩)∧Hid (Blk wx w.heap.size 26 #[.slice (some ⟨b,o,none⟩) n c,.slice B m d])∧Hid (Blk wx (w.heap.size+1) 50 #[.int .u8 k,.string (ofL tx),.int .i64 nn,.slice Ka nk ca,.int .i64 at_])∧Hid (Below w.heap.size w wx))
  case first =>
   have fin2:∀ b:Bool,ownR ⟨k,tx,nn,ks,at_⟩=b→Value.bool (!b)=Value.bool (!ownR ⟨k,tx,nn,ks,at_⟩):=fun b h=>by rw [h]
   have HOW:=hid (show ownR ⟨k,tx,nn,ks,at_⟩=((namedK k == isName tx) && (namedK k || tx.isEmpty) && manyN k nn nk && numberN k nn && within at_ 0 2000) by unfold ownR;rw [manyN_eq,numberN_eq,HNK.out])
   refine wp_region_noPanic ?_
   refine wp_region_held_drew (S:=fun w'=>w'.cell? ⟨w.heap.size+1,0,none⟩=some (.int .u8 k)∧w'.cell? ⟨w.heap.size+1,1,none⟩=some (.string (ofL tx))∧w'.cell? ⟨w.heap.size+1,2,none⟩=some (.int .i64 nn)∧w'.cell? ⟨w.heap.size+1,3,none⟩=some (.slice Ka nk ca)∧w'.cell? ⟨w.heap.size+1,4,none⟩=some (.int .i64 at_)) (by kernel_rfl) ⟨q0,q1,q2,q3,q4⟩ (fun hH0=>?_)
   refine takeY 0 rfl (v:=?_) ⟨by rfl,?_⟩ hH0 ?_
   rotate_left
   ·(intro w0 hSw;(try dsimp only at hSw);go_split_ands;go_simp;try with_reducible rfl)
   simp only [Act.put,List.setIfInBounds_toArray,List.set_cons_zero,List.set_cons_succ]
   refine takeY 1 rfl (v:=?_) ⟨by rfl,?_⟩ hH0 ?_
   rotate_left
   ·(intro w0 hSw;(try dsimp only at hSw);go_split_ands;go_simp;try with_reducible rfl)
   simp only [Act.put,List.setIfInBounds_toArray,List.set_cons_zero,List.set_cons_succ]
   refine takeY 3 rfl (v:=?_) ⟨by rfl,?_⟩ hH0 ?_
   rotate_left
   ·(intro w0 hSw;(try dsimp only at hSw);go_split_ands;go_simp;try with_reducible rfl)
   simp only [Act.put,List.setIfInBounds_toArray,List.set_cons_zero,List.set_cons_succ]
   refine takeY 4 rfl (v:=?_) ⟨by rfl,?_⟩ hH0 ?_
   rotate_left
   ·(intro w0 hSw;(try dsimp only at hSw);go_split_ands;go_simp;try with_reducible rfl)
   simp only [Act.put,List.setIfInBounds_toArray,List.set_cons_zero,List.set_cons_succ]
   refine wpAnyH_ready (rs:=[2]) (by kernel_rfl) (by simp) ?_
   refine readyI 2 rfl (fun K hK=>?_)
   go_simp
   refine (rnamed_any k _).mono ?_
   rintro e w3⟨rfl,rfl⟩
   refine hK.out _ _ ⟨q0,q1,q2,q3,q4⟩ (fun hH1=>?_)
   (try simp only [Act.put,List.setIfInBounds_toArray,List.set_cons_zero,List.set_cons_succ])
   refine wpAnyH_ready (rs:=[5]) (by kernel_rfl) (by simp) ?_
   refine readyI 5 rfl (fun K hK=>?_)
   go_simp
   refine (risName_any tx _ hl).mono ?_
   rintro e w6⟨rfl,hb6⟩
   have HB6:=hid (HB.out.drew.below hb6 HB.out.lt)
   have HP6:=hid (HP.out.drew.below hb6 HP.out.lt)
   have HL6:=hid (HL.out.drew.trans (hb6.mono HL.out.size))
   clear hb6 q0 q1 q2 q3 q4
   have r0:=HP6.out.cell 0
   have r1:=HP6.out.cell 1
   have r2:=HP6.out.cell 2
   have r3:=HP6.out.cell 3
   have r4:=HP6.out.cell 4
   refine hK.out _ _ ⟨r0,r1,r2,r3,r4⟩ (fun hH2=>?_)
   (try simp only [Act.put,List.setIfInBounds_toArray,List.set_cons_zero,List.set_cons_succ])
   clear hH0 hH1
   cases hnm:namedK k <;> cases hin:isName tx
   case false.true | true.false =>
    refine takeY 6 rfl (v:=?_) ⟨by rfl,?_⟩ hH2 ?_
    rotate_left
    ·(intro w0 hSw;(try dsimp only at hSw);go_split_ands;go_simp;try with_reducible rfl)
    simp only [Act.put,List.setIfInBounds_toArray,List.set_cons_zero,List.set_cons_succ]
    refine takeY 7 rfl (v:=?_) ⟨by rfl,?_⟩ hH2 ?_
    rotate_left
    ·(intro w0 hSw;(try dsimp only at hSw);go_split_ands;go_simp;try with_reducible rfl)
    simp only [Act.put,List.setIfInBounds_toArray,List.set_cons_zero,List.set_cons_succ]
    refine takeN 8 rfl (by rfl) hH2 ?_
    simp only [Act.put,List.setIfInBounds_toArray,List.set_cons_zero,List.set_cons_succ]
    refine takeN 9 rfl (by rfl) hH2 ?_
    simp only [Act.put,List.setIfInBounds_toArray,List.set_cons_zero,List.set_cons_succ]
    refine takeN 10 rfl (by rfl) hH2 ?_
    simp only [Act.put,List.setIfInBounds_toArray,List.set_cons_zero,List.set_cons_succ]
    refine takeN 11 rfl (by rfl) hH2 ?_
    simp only [Act.put,List.setIfInBounds_toArray,List.set_cons_zero,List.set_cons_succ]
    refine takeN 12 rfl (by rfl) hH2 ?_
    simp only [Act.put,List.setIfInBounds_toArray,List.set_cons_zero,List.set_cons_succ]
    refine takeN 13 rfl (by rfl) hH2 ?_
    simp only [Act.put,List.setIfInBounds_toArray,List.set_cons_zero,List.set_cons_succ]
    refine takeN 14 rfl (by rfl) hH2 ?_
    simp only [Act.put,List.setIfInBounds_toArray,List.set_cons_zero,List.set_cons_succ]
    refine takeN 15 rfl (by rfl) hH2 ?_
    simp only [Act.put,List.setIfInBounds_toArray,List.set_cons_zero,List.set_cons_succ]
    refine takeN 16 rfl (by rfl) hH2 ?_
    simp only [Act.put,List.setIfInBounds_toArray,List.set_cons_zero,List.set_cons_succ]
    refine takeY 17 rfl (v:=?_) ⟨by rfl,?_⟩ hH2 ?_
    rotate_left
    ·(intro w0 hSw;(try dsimp only at hSw);go_split_ands;go_simp;try with_reducible rfl)
    simp only [Act.put,List.setIfInBounds_toArray,List.set_cons_zero,List.set_cons_succ]
    refine takeY 18 rfl (v:=?_) ⟨by rfl,?_⟩ hH2 ?_
    rotate_left
    ·(intro w0 hSw;(try dsimp only at hSw);go_split_ands;go_simp;try with_reducible rfl)
    simp only [Act.put,List.setIfInBounds_toArray,List.set_cons_zero,List.set_cons_succ]
    refine takeN 19 rfl (by rfl) hH2 ?_
    simp only [Act.put,List.setIfInBounds_toArray,List.set_cons_zero,List.set_cons_succ]
    refine takeN 20 rfl (by rfl) hH2 ?_
    simp only [Act.put,List.setIfInBounds_toArray,List.set_cons_zero,List.set_cons_succ]
    refine takeN 21 rfl (by rfl) hH2 ?_
    simp only [Act.put,List.setIfInBounds_toArray,List.set_cons_zero,List.set_cons_succ]
    refine takeY 22 rfl (v:=?_) ⟨by rfl,?_⟩ hH2 ?_
    rotate_left
    ·(intro w0 hSw;(try dsimp only at hSw);go_split_ands;go_simp;try with_reducible rfl)
    simp only [Act.put,List.setIfInBounds_toArray,List.set_cons_zero,List.set_cons_succ]
    refine takeY 23 rfl (v:=?_) ⟨by rfl,?_⟩ hH2 ?_
    rotate_left
    ·(intro w0 hSw;(try dsimp only at hSw);go_split_ands;go_simp;try with_reducible rfl)
    simp only [Act.put,List.setIfInBounds_toArray,List.set_cons_zero,List.set_cons_succ]
    refine takeN 24 rfl (by rfl) hH2 ?_
    simp only [Act.put,List.setIfInBounds_toArray,List.set_cons_zero,List.set_cons_succ]
    refine takeN 25 rfl (by rfl) hH2 ?_
    simp only [Act.put,List.setIfInBounds_toArray,List.set_cons_zero,List.set_cons_succ]
    refine takeN 26 rfl (by rfl) hH2 ?_
    simp only [Act.put,List.setIfInBounds_toArray,List.set_cons_zero,List.set_cons_succ]
    refine takeY 27 rfl (v:=?_) ⟨by rfl,?_⟩ hH2 ?_
    rotate_left
    ·(intro w0 hSw;(try dsimp only at hSw);go_split_ands;go_simp;try with_reducible rfl)
    simp only [Act.put,List.setIfInBounds_toArray,List.set_cons_zero,List.set_cons_succ]
    refine takeY 28 rfl (v:=?_) ⟨by rfl,?_⟩ hH2 ?_
    rotate_left
    ·(intro w0 hSw;(try dsimp only at hSw);go_split_ands;go_simp;try with_reducible rfl)
    simp only [Act.put,List.setIfInBounds_toArray,List.set_cons_zero,List.set_cons_succ]
    refine takeN 29 rfl (by rfl) hH2 ?_
    simp only [Act.put,List.setIfInBounds_toArray,List.set_cons_zero,List.set_cons_succ]
    refine takeN 30 rfl (by rfl) hH2 ?_
    simp only [Act.put,List.setIfInBounds_toArray,List.set_cons_zero,List.set_cons_succ]
    refine takeN 31 rfl (by rfl) hH2 ?_
    simp only [Act.put,List.setIfInBounds_toArray,List.set_cons_zero,List.set_cons_succ]
    refine takeY 32 rfl (v:=?_) ⟨by rfl,?_⟩ hH2 ?_
    rotate_left
    ·(intro w0 hSw;(try dsimp only at hSw);go_split_ands;go_simp;try with_reducible rfl)
    simp only [Act.put,List.setIfInBounds_toArray,List.set_cons_zero,List.set_cons_succ]
    refine takeY 33 rfl (v:=?_) ⟨by rfl,?_⟩ hH2 ?_
    rotate_left
    ·(intro w0 hSw;(try dsimp only at hSw);go_split_ands;go_simp;try with_reducible rfl)
    simp only [Act.put,List.setIfInBounds_toArray,List.set_cons_zero,List.set_cons_succ]
    refine takeN 34 rfl (by rfl) hH2 ?_
    simp only [Act.put,List.setIfInBounds_toArray,List.set_cons_zero,List.set_cons_succ]
    refine takeN 35 rfl (by rfl) hH2 ?_
    simp only [Act.put,List.setIfInBounds_toArray,List.set_cons_zero,List.set_cons_succ]
    refine takeN 36 rfl (by rfl) hH2 ?_
    simp only [Act.put,List.setIfInBounds_toArray,List.set_cons_zero,List.set_cons_succ]
    refine takeY 37 rfl (v:=?_) ⟨by rfl,?_⟩ hH2 ?_
    rotate_left
    ·(intro w0 hSw;(try dsimp only at hSw);go_split_ands;go_simp;try with_reducible rfl)
    simp only [Act.put,List.setIfInBounds_toArray,List.set_cons_zero,List.set_cons_succ]
    refine wpAnyH_done (by kernel_rfl) (NoPanic.normal ?_) _
    go_wp2_with fail
    go_meet
    exact⟨fin2 false (by rw [HOW.out,hnm,hin];rfl),HB6,HP6,HL6⟩
   case' true.true =>
    refine takeY 6 rfl (v:=?_) ⟨by rfl,?_⟩ hH2 ?_
    rotate_left
    ·(intro w0 hSw;(try dsimp only at hSw);go_split_ands;go_simp;try with_reducible rfl)
    simp only [Act.put,List.setIfInBounds_toArray,List.set_cons_zero,List.set_cons_succ]
    refine takeY 7 rfl (v:=?_) ⟨by rfl,?_⟩ hH2 ?_
    rotate_left
    ·(intro w0 hSw;(try dsimp only at hSw);go_split_ands;go_simp;try with_reducible rfl)
    simp only [Act.put,List.setIfInBounds_toArray,List.set_cons_zero,List.set_cons_succ]
    refine takeY 8 rfl (v:=?_) ⟨by rfl,?_⟩ hH2 ?_
    rotate_left
    ·(intro w0 hSw;(try dsimp only at hSw);go_split_ands;go_simp;try with_reducible rfl)
    simp only [Act.put,List.setIfInBounds_toArray,List.set_cons_zero,List.set_cons_succ]
    refine takeY 9 rfl (v:=?_) ⟨by rfl,?_⟩ hH2 ?_
    rotate_left
    ·(intro w0 hSw;(try dsimp only at hSw);go_split_ands;go_simp;try with_reducible rfl)
    simp only [Act.put,List.setIfInBounds_toArray,List.set_cons_zero,List.set_cons_succ]
    refine wpAnyH_ready (rs:=[10]) (by kernel_rfl) (by simp) ?_
    refine readyI 10 rfl (fun K hK=>?_)
    go_simp
    refine (rnamed_any k _).mono ?_
    rintro e w3⟨rfl,rfl⟩
    refine hK.out _ _ ⟨r0,r1,r2,r3,r4⟩ (fun hH3=>?_)
    (try simp only [Act.put,List.setIfInBounds_toArray,List.set_cons_zero,List.set_cons_succ])
    simp only [hnm]
    clear hH2
    refine takeY 11 rfl (v:=?_) ⟨by rfl,?_⟩ hH3 ?_
    rotate_left
    ·(intro w0 hSw;(try dsimp only at hSw);go_split_ands;go_simp;try with_reducible rfl)
    simp only [Act.put,List.setIfInBounds_toArray,List.set_cons_zero,List.set_cons_succ]
    refine takeY 12 rfl (v:=?_) ⟨by rfl,?_⟩ hH3 ?_
    rotate_left
    ·(intro w0 hSw;(try dsimp only at hSw);go_split_ands;go_simp;try with_reducible rfl)
    simp only [Act.put,List.setIfInBounds_toArray,List.set_cons_zero,List.set_cons_succ]
    refine takeN 13 rfl (by rfl) hH3 ?_
    simp only [Act.put,List.setIfInBounds_toArray,List.set_cons_zero,List.set_cons_succ]
    refine takeN 14 rfl (by rfl) hH3 ?_
    simp only [Act.put,List.setIfInBounds_toArray,List.set_cons_zero,List.set_cons_succ]
    refine takeN 15 rfl (by rfl) hH3 ?_
    simp only [Act.put,List.setIfInBounds_toArray,List.set_cons_zero,List.set_cons_succ]
    refine takeY 16 rfl (v:=?_) ⟨by rfl,?_⟩ hH3 ?_
    rotate_left
    ·(intro w0 hSw;(try dsimp only at hSw);go_split_ands;go_simp;try with_reducible rfl)
    simp only [Act.put,List.setIfInBounds_toArray,List.set_cons_zero,List.set_cons_succ]
    refine takeY 17 rfl (v:=?_) ⟨by rfl,?_⟩ hH3 ?_
    rotate_left
    ·(intro w0 hSw;(try dsimp only at hSw);go_split_ands;go_simp;try with_reducible rfl)
    simp only [Act.put,List.setIfInBounds_toArray,List.set_cons_zero,List.set_cons_succ]
    refine takeY 18 rfl (v:=?_) ⟨by rfl,?_⟩ hH3 ?_
    rotate_left
    ·(intro w0 hSw;(try dsimp only at hSw);go_split_ands;go_simp;try with_reducible rfl)
    simp only [Act.put,List.setIfInBounds_toArray,List.set_cons_zero,List.set_cons_succ]
    have HOX:=hid (show ownR ⟨k,tx,nn,ks,at_⟩=(manyN k nn nk && numberN k nn && within at_ 0 2000) by rw [HOW.out,hnm,hin];rfl)
   case' false.false =>
    refine takeY 6 rfl (v:=?_) ⟨by rfl,?_⟩ hH2 ?_
    rotate_left
    ·(intro w0 hSw;(try dsimp only at hSw);go_split_ands;go_simp;try with_reducible rfl)
    simp only [Act.put,List.setIfInBounds_toArray,List.set_cons_zero,List.set_cons_succ]
    refine takeY 7 rfl (v:=?_) ⟨by rfl,?_⟩ hH2 ?_
    rotate_left
    ·(intro w0 hSw;(try dsimp only at hSw);go_split_ands;go_simp;try with_reducible rfl)
    simp only [Act.put,List.setIfInBounds_toArray,List.set_cons_zero,List.set_cons_succ]
    refine takeY 8 rfl (v:=?_) ⟨by rfl,?_⟩ hH2 ?_
    rotate_left
    ·(intro w0 hSw;(try dsimp only at hSw);go_split_ands;go_simp;try with_reducible rfl)
    simp only [Act.put,List.setIfInBounds_toArray,List.set_cons_zero,List.set_cons_succ]
    refine takeY 9 rfl (v:=?_) ⟨by rfl,?_⟩ hH2 ?_
    rotate_left
    ·(intro w0 hSw;(try dsimp only at hSw);go_split_ands;go_simp;try with_reducible rfl)
    simp only [Act.put,List.setIfInBounds_toArray,List.set_cons_zero,List.set_cons_succ]
    refine wpAnyH_ready (rs:=[10]) (by kernel_rfl) (by simp) ?_
    refine readyI 10 rfl (fun K hK=>?_)
    go_simp
    refine (rnamed_any k _).mono ?_
    rintro e w3⟨rfl,rfl⟩
    refine hK.out _ _ ⟨r0,r1,r2,r3,r4⟩ (fun hH3=>?_)
    (try simp only [Act.put,List.setIfInBounds_toArray,List.set_cons_zero,List.set_cons_succ])
    simp only [hnm]
    clear hH2
    refine takeY 11 rfl (v:=?_) ⟨by rfl,?_⟩ hH3 ?_
    rotate_left
    ·(intro w0 hSw;(try dsimp only at hSw);go_split_ands;go_simp;try with_reducible rfl)
    simp only [Act.put,List.setIfInBounds_toArray,List.set_cons_zero,List.set_cons_succ]
    refine takeY 12 rfl (v:=?_) ⟨by rfl,?_⟩ hH3 ?_
    rotate_left
    ·(intro w0 hSw;(try dsimp only at hSw);go_split_ands;go_simp;try with_reducible rfl)
    simp only [Act.put,List.setIfInBounds_toArray,List.set_cons_zero,List.set_cons_succ]
    by_cases htx:tx=[]
    case' neg =>
     have htt:(tx != [])=true:=by simpa using htx
     have hte:(tx == [])=false:=by simpa using htx
     refine takeY 13 rfl (v:=?_) ⟨by rfl,?_⟩ hH3 ?_
     rotate_left
     ·(intro w0 hSw;(try dsimp only at hSw);go_split_ands;go_simp;try with_reducible rfl)
     simp only [Act.put,List.setIfInBounds_toArray,List.set_cons_zero,List.set_cons_succ]
     refine takeY 14 rfl (v:=?_) ⟨by rfl,?_⟩ hH3 ?_
     rotate_left
     ·(intro w0 hSw;(try dsimp only at hSw);go_split_ands;go_simp;try with_reducible rfl)
     simp only [Act.put,List.setIfInBounds_toArray,List.set_cons_zero,List.set_cons_succ]
     refine takeY 15 rfl (v:=?_) ⟨by rfl,?_⟩ hH3 ?_
     rotate_left
     ·(intro w0 hSw;(try dsimp only at hSw);go_split_ands;go_simp;try with_reducible rfl)
     simp only [Act.put,List.setIfInBounds_toArray,List.set_cons_zero,List.set_cons_succ]
     refine takeY 16 rfl (v:=?_) ⟨by rfl,?_⟩ hH3 ?_
     rotate_left
     ·(intro w0 hSw;(try dsimp only at hSw);go_split_ands;go_simp;try with_reducible rfl)
     simp only [Act.put,List.setIfInBounds_toArray,List.set_cons_zero,List.set_cons_succ]
     refine takeY 17 rfl (v:=?_) ⟨by rfl,?_⟩ hH3 ?_
     rotate_left
     ·(intro w0 hSw;(try dsimp only at hSw);go_split_ands;go_simp;try with_reducible rfl)
     simp only [Act.put,List.setIfInBounds_toArray,List.set_cons_zero,List.set_cons_succ]
     refine takeY 18 rfl (v:=?_) ⟨by rfl,?_⟩ hH3 ?_
     rotate_left
     ·(intro w0 hSw;(try dsimp only at hSw);go_split_ands;go_simp;try with_reducible rfl)
     simp only [Act.put,List.setIfInBounds_toArray,List.set_cons_zero,List.set_cons_succ]
     refine takeN 19 rfl (by rfl) hH3 ?_
     simp only [Act.put,List.setIfInBounds_toArray,List.set_cons_zero,List.set_cons_succ]
     refine takeN 20 rfl (by rfl) hH3 ?_
     simp only [Act.put,List.setIfInBounds_toArray,List.set_cons_zero,List.set_cons_succ]
     refine takeN 21 rfl (by rfl) hH3 ?_
     simp only [Act.put,List.setIfInBounds_toArray,List.set_cons_zero,List.set_cons_succ]
     refine takeY 22 rfl (v:=?_) ⟨by rfl,?_⟩ hH3 ?_
     rotate_left
     ·(intro w0 hSw;(try dsimp only at hSw);go_split_ands;go_simp;try with_reducible rfl)
     simp only [Act.put,List.setIfInBounds_toArray,List.set_cons_zero,List.set_cons_succ]
     refine takeY 23 rfl (v:=?_) ⟨by rfl,?_⟩ hH3 ?_
     rotate_left
     ·(intro w0 hSw;(try dsimp only at hSw);go_split_ands;go_simp;try with_reducible rfl)
     simp only [Act.put,List.setIfInBounds_toArray,List.set_cons_zero,List.set_cons_succ]
     refine takeN 24 rfl (by rfl) hH3 ?_
     simp only [Act.put,List.setIfInBounds_toArray,List.set_cons_zero,List.set_cons_succ]
     refine takeN 25 rfl (by rfl) hH3 ?_
     simp only [Act.put,List.setIfInBounds_toArray,List.set_cons_zero,List.set_cons_succ]
     refine takeN 26 rfl (by rfl) hH3 ?_
     simp only [Act.put,List.setIfInBounds_toArray,List.set_cons_zero,List.set_cons_succ]
     refine takeY 27 rfl (v:=?_) ⟨by rfl,?_⟩ hH3 ?_
     rotate_left
     ·(intro w0 hSw;(try dsimp only at hSw);go_split_ands;go_simp;try with_reducible rfl)
     simp only [Act.put,List.setIfInBounds_toArray,List.set_cons_zero,List.set_cons_succ]
     refine takeY 28 rfl (v:=?_) ⟨by rfl,?_⟩ hH3 ?_
     rotate_left
     ·(intro w0 hSw;(try dsimp only at hSw);go_split_ands;go_simp;try with_reducible rfl)
     simp only [Act.put,List.setIfInBounds_toArray,List.set_cons_zero,List.set_cons_succ]
     refine takeN 29 rfl (by rfl) hH3 ?_
     simp only [Act.put,List.setIfInBounds_toArray,List.set_cons_zero,List.set_cons_succ]
     refine takeN 30 rfl (by rfl) hH3 ?_
     simp only [Act.put,List.setIfInBounds_toArray,List.set_cons_zero,List.set_cons_succ]
     refine takeN 31 rfl (by rfl) hH3 ?_
     simp only [Act.put,List.setIfInBounds_toArray,List.set_cons_zero,List.set_cons_succ]
     refine takeY 32 rfl (v:=?_) ⟨by rfl,?_⟩ hH3 ?_
     rotate_left
     ·(intro w0 hSw;(try dsimp only at hSw);go_split_ands;go_simp;try with_reducible rfl)
     simp only [Act.put,List.setIfInBounds_toArray,List.set_cons_zero,List.set_cons_succ]
     refine takeY 33 rfl (v:=?_) ⟨by rfl,?_⟩ hH3 ?_
     rotate_left
     ·(intro w0 hSw;(try dsimp only at hSw);go_split_ands;go_simp;try with_reducible rfl)
     simp only [Act.put,List.setIfInBounds_toArray,List.set_cons_zero,List.set_cons_succ]
     refine takeN 34 rfl (by rfl) hH3 ?_
     simp only [Act.put,List.setIfInBounds_toArray,List.set_cons_zero,List.set_cons_succ]
     refine takeN 35 rfl (by rfl) hH3 ?_
     simp only [Act.put,List.setIfInBounds_toArray,List.set_cons_zero,List.set_cons_succ]
     refine takeN 36 rfl (by rfl) hH3 ?_
     simp only [Act.put,List.setIfInBounds_toArray,List.set_cons_zero,List.set_cons_succ]
     refine takeY 37 rfl (v:=?_) ⟨by rfl,?_⟩ hH3 ?_
     rotate_left
     ·(intro w0 hSw;(try dsimp only at hSw);go_split_ands;go_simp;try with_reducible rfl)
     simp only [Act.put,List.setIfInBounds_toArray,List.set_cons_zero,List.set_cons_succ]
     refine wpAnyH_done (by kernel_rfl) (NoPanic.normal ?_) _
     go_wp2_with fail
     go_meet
     exact⟨fin2 false (by rw [HOW.out,hnm,hin];simp [htx]),HB6,HP6,HL6⟩
    refine takeY 13 rfl (v:=?_) ⟨by rfl,?_⟩ hH3 ?_
    rotate_left
    ·(intro w0 hSw;(try dsimp only at hSw);go_split_ands;go_simp;try with_reducible rfl)
    simp only [Act.put,List.setIfInBounds_toArray,List.set_cons_zero,List.set_cons_succ]
    refine takeY 14 rfl (v:=?_) ⟨by rfl,?_⟩ hH3 ?_
    rotate_left
    ·(intro w0 hSw;(try dsimp only at hSw);go_split_ands;go_simp;try with_reducible rfl)
    simp only [Act.put,List.setIfInBounds_toArray,List.set_cons_zero,List.set_cons_succ]
    refine takeY 15 rfl (v:=?_) ⟨by rfl,?_⟩ hH3 ?_
    rotate_left
    ·(intro w0 hSw;(try dsimp only at hSw);go_split_ands;go_simp;try with_reducible rfl)
    simp only [Act.put,List.setIfInBounds_toArray,List.set_cons_zero,List.set_cons_succ]
    refine takeY 16 rfl (v:=?_) ⟨by rfl,?_⟩ hH3 ?_
    rotate_left
    ·(intro w0 hSw;(try dsimp only at hSw);go_split_ands;go_simp;try with_reducible rfl)
    simp only [Act.put,List.setIfInBounds_toArray,List.set_cons_zero,List.set_cons_succ]
    refine takeY 17 rfl (v:=?_) ⟨by rfl,?_⟩ hH3 ?_
    rotate_left
    ·(intro w0 hSw;(try dsimp only at hSw);go_split_ands;go_simp;try with_reducible rfl)
    simp only [Act.put,List.setIfInBounds_toArray,List.set_cons_zero,List.set_cons_succ]
    refine takeY 18 rfl (v:=?_) ⟨by rfl,?_⟩ hH3 ?_
    rotate_left
    ·(intro w0 hSw;(try dsimp only at hSw);go_split_ands;go_simp;try with_reducible rfl)
    simp only [Act.put,List.setIfInBounds_toArray,List.set_cons_zero,List.set_cons_succ]
    have HOX:=hid (show ownR ⟨k,tx,nn,ks,at_⟩=(manyN k nn nk && numberN k nn && within at_ 0 2000) by rw [HOW.out,hnm,hin,htx];rfl)
    clear htx
   all_goals
    refine takeY 19 rfl (v:=?_) ⟨by rfl,?_⟩ hH3 ?_
    rotate_left
    ·(intro w0 hSw;(try dsimp only at hSw);go_split_ands;go_simp;try with_reducible rfl)
    simp only [Act.put,List.setIfInBounds_toArray,List.set_cons_zero,List.set_cons_succ]
    refine wpAnyH_ready (rs:=[20]) (by kernel_rfl) (by simp) ?_
    refine readyI 20 rfl (fun K hK=>?_)
    go_simp
    refine (rmany_any k tx nn at_ Ka nk ca _).mono ?_
    rintro e w7⟨rfl,hb7⟩
    replace HB6:=hid (HB6.out.below hb7 HB6.out.lt)
    replace HP6:=hid (HP6.out.below hb7 HP6.out.lt)
    replace HL6:=hid (HL6.out.trans (hb7.mono HL6.out.size))
    clear hb7 r0 r1 r2 r3 r4
    have r0:=HP6.out.cell 0
    have r1:=HP6.out.cell 1
    have r2:=HP6.out.cell 2
    have r3:=HP6.out.cell 3
    have r4:=HP6.out.cell 4
    refine hK.out _ _ ⟨r0,r1,r2,r3,r4⟩ (fun hH4=>?_)
    (try simp only [Act.put,List.setIfInBounds_toArray,List.set_cons_zero,List.set_cons_succ])
    clear hH3
    cases hmk:manyN k nn nk
    case false =>
     refine takeY 21 rfl (v:=?_) ⟨by rfl,?_⟩ hH4 ?_
     rotate_left
     ·(intro w0 hSw;(try dsimp only at hSw);go_split_ands;go_simp;try with_reducible rfl)
     simp only [Act.put,List.setIfInBounds_toArray,List.set_cons_zero,List.set_cons_succ]
     refine takeY 22 rfl (v:=?_) ⟨by rfl,?_⟩ hH4 ?_
     rotate_left
     ·(intro w0 hSw;(try dsimp only at hSw);go_split_ands;go_simp;try with_reducible rfl)
     simp only [Act.put,List.setIfInBounds_toArray,List.set_cons_zero,List.set_cons_succ]
     refine takeY 23 rfl (v:=?_) ⟨by rfl,?_⟩ hH4 ?_
     rotate_left
     ·(intro w0 hSw;(try dsimp only at hSw);go_split_ands;go_simp;try with_reducible rfl)
     simp only [Act.put,List.setIfInBounds_toArray,List.set_cons_zero,List.set_cons_succ]
     refine takeN 24 rfl (by rfl) hH4 ?_
     simp only [Act.put,List.setIfInBounds_toArray,List.set_cons_zero,List.set_cons_succ]
     refine takeN 25 rfl (by rfl) hH4 ?_
     simp only [Act.put,List.setIfInBounds_toArray,List.set_cons_zero,List.set_cons_succ]
     refine takeN 26 rfl (by rfl) hH4 ?_
     simp only [Act.put,List.setIfInBounds_toArray,List.set_cons_zero,List.set_cons_succ]
     refine takeY 27 rfl (v:=?_) ⟨by rfl,?_⟩ hH4 ?_
     rotate_left
     ·(intro w0 hSw;(try dsimp only at hSw);go_split_ands;go_simp;try with_reducible rfl)
     simp only [Act.put,List.setIfInBounds_toArray,List.set_cons_zero,List.set_cons_succ]
     refine takeY 28 rfl (v:=?_) ⟨by rfl,?_⟩ hH4 ?_
     rotate_left
     ·(intro w0 hSw;(try dsimp only at hSw);go_split_ands;go_simp;try with_reducible rfl)
     simp only [Act.put,List.setIfInBounds_toArray,List.set_cons_zero,List.set_cons_succ]
     refine takeN 29 rfl (by rfl) hH4 ?_
     simp only [Act.put,List.setIfInBounds_toArray,List.set_cons_zero,List.set_cons_succ]
     refine takeN 30 rfl (by rfl) hH4 ?_
     simp only [Act.put,List.setIfInBounds_toArray,List.set_cons_zero,List.set_cons_succ]
     refine takeN 31 rfl (by rfl) hH4 ?_
     simp only [Act.put,List.setIfInBounds_toArray,List.set_cons_zero,List.set_cons_succ]
     refine takeY 32 rfl (v:=?_) ⟨by rfl,?_⟩ hH4 ?_
     rotate_left
     ·(intro w0 hSw;(try dsimp only at hSw);go_split_ands;go_simp;try with_reducible rfl)
     simp only [Act.put,List.setIfInBounds_toArray,List.set_cons_zero,List.set_cons_succ]
     refine takeY 33 rfl (v:=?_) ⟨by rfl,?_⟩ hH4 ?_
     rotate_left
     ·(intro w0 hSw;(try dsimp only at hSw);go_split_ands;go_simp;try with_reducible rfl)
     simp only [Act.put,List.setIfInBounds_toArray,List.set_cons_zero,List.set_cons_succ]
     refine takeN 34 rfl (by rfl) hH4 ?_
     simp only [Act.put,List.setIfInBounds_toArray,List.set_cons_zero,List.set_cons_succ]
     refine takeN 35 rfl (by rfl) hH4 ?_
     simp only [Act.put,List.setIfInBounds_toArray,List.set_cons_zero,List.set_cons_succ]
     refine takeN 36 rfl (by rfl) hH4 ?_
     simp only [Act.put,List.setIfInBounds_toArray,List.set_cons_zero,List.set_cons_succ]
     refine takeY 37 rfl (v:=?_) ⟨by rfl,?_⟩ hH4 ?_
     rotate_left
     ·(intro w0 hSw;(try dsimp only at hSw);go_split_ands;go_simp;try with_reducible rfl)
     simp only [Act.put,List.setIfInBounds_toArray,List.set_cons_zero,List.set_cons_succ]
     refine wpAnyH_done (by kernel_rfl) (NoPanic.normal ?_) _
     go_wp2_with fail
     go_meet
     exact⟨fin2 false (by rw [HOX.out,hmk];rfl),HB6,HP6,HL6⟩
    refine takeY 21 rfl (v:=?_) ⟨by rfl,?_⟩ hH4 ?_
    rotate_left
    ·(intro w0 hSw;(try dsimp only at hSw);go_split_ands;go_simp;try with_reducible rfl)
    simp only [Act.put,List.setIfInBounds_toArray,List.set_cons_zero,List.set_cons_succ]
    refine takeY 22 rfl (v:=?_) ⟨by rfl,?_⟩ hH4 ?_
    rotate_left
    ·(intro w0 hSw;(try dsimp only at hSw);go_split_ands;go_simp;try with_reducible rfl)
    simp only [Act.put,List.setIfInBounds_toArray,List.set_cons_zero,List.set_cons_succ]
    refine takeY 23 rfl (v:=?_) ⟨by rfl,?_⟩ hH4 ?_
    rotate_left
    ·(intro w0 hSw;(try dsimp only at hSw);go_split_ands;go_simp;try with_reducible rfl)
    simp only [Act.put,List.setIfInBounds_toArray,List.set_cons_zero,List.set_cons_succ]
    refine takeY 24 rfl (v:=?_) ⟨by rfl,?_⟩ hH4 ?_
    rotate_left
    ·(intro w0 hSw;(try dsimp only at hSw);go_split_ands;go_simp;try with_reducible rfl)
    simp only [Act.put,List.setIfInBounds_toArray,List.set_cons_zero,List.set_cons_succ]
    refine wpAnyH_ready (rs:=[25]) (by kernel_rfl) (by simp) ?_
    refine readyI 25 rfl (fun K hK=>?_)
    go_simp
    refine (rnumberK_any k tx nn at_ Ka nk ca _).mono ?_
    rintro e w7⟨rfl,hb7⟩
    replace HB6:=hid (HB6.out.below hb7 HB6.out.lt)
    replace HP6:=hid (HP6.out.below hb7 HP6.out.lt)
    replace HL6:=hid (HL6.out.trans (hb7.mono HL6.out.size))
    clear hb7 r0 r1 r2 r3 r4
    have r0:=HP6.out.cell 0
    have r1:=HP6.out.cell 1
    have r2:=HP6.out.cell 2
    have r3:=HP6.out.cell 3
    have r4:=HP6.out.cell 4
    refine hK.out _ _ ⟨r0,r1,r2,r3,r4⟩ (fun hH5=>?_)
    (try simp only [Act.put,List.setIfInBounds_toArray,List.set_cons_zero,List.set_cons_succ])
    clear hH4
    cases hnu:numberN k nn
    case false =>
     refine takeY 26 rfl (v:=?_) ⟨by rfl,?_⟩ hH5 ?_
     rotate_left
     ·(intro w0 hSw;(try dsimp only at hSw);go_split_ands;go_simp;try with_reducible rfl)
     simp only [Act.put,List.setIfInBounds_toArray,List.set_cons_zero,List.set_cons_succ]
     refine takeY 27 rfl (v:=?_) ⟨by rfl,?_⟩ hH5 ?_
     rotate_left
     ·(intro w0 hSw;(try dsimp only at hSw);go_split_ands;go_simp;try with_reducible rfl)
     simp only [Act.put,List.setIfInBounds_toArray,List.set_cons_zero,List.set_cons_succ]
     refine takeY 28 rfl (v:=?_) ⟨by rfl,?_⟩ hH5 ?_
     rotate_left
     ·(intro w0 hSw;(try dsimp only at hSw);go_split_ands;go_simp;try with_reducible rfl)
     simp only [Act.put,List.setIfInBounds_toArray,List.set_cons_zero,List.set_cons_succ]
     refine takeN 29 rfl (by rfl) hH5 ?_
     simp only [Act.put,List.setIfInBounds_toArray,List.set_cons_zero,List.set_cons_succ]
     refine takeN 30 rfl (by rfl) hH5 ?_
     simp only [Act.put,List.setIfInBounds_toArray,List.set_cons_zero,List.set_cons_succ]
     refine takeN 31 rfl (by rfl) hH5 ?_
     simp only [Act.put,List.setIfInBounds_toArray,List.set_cons_zero,List.set_cons_succ]
     refine takeY 32 rfl (v:=?_) ⟨by rfl,?_⟩ hH5 ?_
     rotate_left
     ·(intro w0 hSw;(try dsimp only at hSw);go_split_ands;go_simp;try with_reducible rfl)
     simp only [Act.put,List.setIfInBounds_toArray,List.set_cons_zero,List.set_cons_succ]
     refine takeY 33 rfl (v:=?_) ⟨by rfl,?_⟩ hH5 ?_
     rotate_left
     ·(intro w0 hSw;(try dsimp only at hSw);go_split_ands;go_simp;try with_reducible rfl)
     simp only [Act.put,List.setIfInBounds_toArray,List.set_cons_zero,List.set_cons_succ]
     refine takeN 34 rfl (by rfl) hH5 ?_
     simp only [Act.put,List.setIfInBounds_toArray,List.set_cons_zero,List.set_cons_succ]
     refine takeN 35 rfl (by rfl) hH5 ?_
     simp only [Act.put,List.setIfInBounds_toArray,List.set_cons_zero,List.set_cons_succ]
     refine takeN 36 rfl (by rfl) hH5 ?_
     simp only [Act.put,List.setIfInBounds_toArray,List.set_cons_zero,List.set_cons_succ]
     refine takeY 37 rfl (v:=?_) ⟨by rfl,?_⟩ hH5 ?_
     rotate_left
     ·(intro w0 hSw;(try dsimp only at hSw);go_split_ands;go_simp;try with_reducible rfl)
     simp only [Act.put,List.setIfInBounds_toArray,List.set_cons_zero,List.set_cons_succ]
     refine wpAnyH_done (by kernel_rfl) (NoPanic.normal ?_) _
     go_wp2_with fail
     go_meet
     exact⟨fin2 false (by rw [HOX.out,hmk,hnu];rfl),HB6,HP6,HL6⟩
    refine takeY 26 rfl (v:=?_) ⟨by rfl,?_⟩ hH5 ?_
    rotate_left
    ·(intro w0 hSw;(try dsimp only at hSw);go_split_ands;go_simp;try with_reducible rfl)
    simp only [Act.put,List.setIfInBounds_toArray,List.set_cons_zero,List.set_cons_succ]
    refine takeY 27 rfl (v:=?_) ⟨by rfl,?_⟩ hH5 ?_
    rotate_left
    ·(intro w0 hSw;(try dsimp only at hSw);go_split_ands;go_simp;try with_reducible rfl)
    simp only [Act.put,List.setIfInBounds_toArray,List.set_cons_zero,List.set_cons_succ]
    refine takeY 28 rfl (v:=?_) ⟨by rfl,?_⟩ hH5 ?_
    rotate_left
    ·(intro w0 hSw;(try dsimp only at hSw);go_split_ands;go_simp;try with_reducible rfl)
    simp only [Act.put,List.setIfInBounds_toArray,List.set_cons_zero,List.set_cons_succ]
    refine takeY 29 rfl (v:=?_) ⟨by rfl,?_⟩ hH5 ?_
    rotate_left
    ·(intro w0 hSw;(try dsimp only at hSw);go_split_ands;go_simp;try with_reducible rfl)
    simp only [Act.put,List.setIfInBounds_toArray,List.set_cons_zero,List.set_cons_succ]
    refine takeY 30 rfl (v:=?_) ⟨by rfl,?_⟩ hH5 ?_
    rotate_left
    ·(intro w0 hSw;(try dsimp only at hSw);go_split_ands;go_simp;try with_reducible rfl)
    simp only [Act.put,List.setIfInBounds_toArray,List.set_cons_zero,List.set_cons_succ]
    by_cases ha0:at_ < 0
    case pos =>
     have da:decide (at_ < 0)=true:=decide_eq_true ha0
     refine takeY 31 rfl (v:=?_) ⟨by rfl,?_⟩ hH5 ?_
     rotate_left
     ·(intro w0 hSw;(try dsimp only at hSw);go_split_ands;go_simp;try with_reducible rfl)
     simp only [Act.put,List.setIfInBounds_toArray,List.set_cons_zero,List.set_cons_succ]
     refine takeY 32 rfl (v:=?_) ⟨by rfl,?_⟩ hH5 ?_
     rotate_left
     ·(intro w0 hSw;(try dsimp only at hSw);go_split_ands;go_simp;try with_reducible rfl)
     simp only [Act.put,List.setIfInBounds_toArray,List.set_cons_zero,List.set_cons_succ]
     refine takeY 33 rfl (v:=?_) ⟨by rfl,?_⟩ hH5 ?_
     rotate_left
     ·(intro w0 hSw;(try dsimp only at hSw);go_split_ands;go_simp;try with_reducible rfl)
     simp only [Act.put,List.setIfInBounds_toArray,List.set_cons_zero,List.set_cons_succ]
     refine takeN 34 rfl (by rfl) hH5 ?_
     simp only [Act.put,List.setIfInBounds_toArray,List.set_cons_zero,List.set_cons_succ]
     refine takeN 35 rfl (by rfl) hH5 ?_
     simp only [Act.put,List.setIfInBounds_toArray,List.set_cons_zero,List.set_cons_succ]
     refine takeN 36 rfl (by rfl) hH5 ?_
     simp only [Act.put,List.setIfInBounds_toArray,List.set_cons_zero,List.set_cons_succ]
     refine takeY 37 rfl (v:=?_) ⟨by rfl,?_⟩ hH5 ?_
     rotate_left
     ·(intro w0 hSw;(try dsimp only at hSw);go_split_ands;go_simp;try with_reducible rfl)
     simp only [Act.put,List.setIfInBounds_toArray,List.set_cons_zero,List.set_cons_succ]
     refine wpAnyH_done (by kernel_rfl) (NoPanic.normal ?_) _
     go_wp2_with fail
     go_meet
     exact⟨fin2 false (by rw [HOX.out,hmk,hnu];simp [within];omega),HB6,HP6,HL6⟩
    have da:decide (at_ < 0)=false:=decide_eq_false ha0
    refine takeY 31 rfl (v:=?_) ⟨by rfl,?_⟩ hH5 ?_
    rotate_left
    ·(intro w0 hSw;(try dsimp only at hSw);go_split_ands;go_simp;try with_reducible rfl)
    simp only [Act.put,List.setIfInBounds_toArray,List.set_cons_zero,List.set_cons_succ]
    refine takeY 32 rfl (v:=?_) ⟨by rfl,?_⟩ hH5 ?_
    rotate_left
    ·(intro w0 hSw;(try dsimp only at hSw);go_split_ands;go_simp;try with_reducible rfl)
    simp only [Act.put,List.setIfInBounds_toArray,List.set_cons_zero,List.set_cons_succ]
    refine takeY 33 rfl (v:=?_) ⟨by rfl,?_⟩ hH5 ?_
    rotate_left
    ·(intro w0 hSw;(try dsimp only at hSw);go_split_ands;go_simp;try with_reducible rfl)
    simp only [Act.put,List.setIfInBounds_toArray,List.set_cons_zero,List.set_cons_succ]
    refine takeY 34 rfl (v:=?_) ⟨by rfl,?_⟩ hH5 ?_
    rotate_left
    ·(intro w0 hSw;(try dsimp only at hSw);go_split_ands;go_simp;try with_reducible rfl)
    simp only [Act.put,List.setIfInBounds_toArray,List.set_cons_zero,List.set_cons_succ]
    refine takeY 35 rfl (v:=?_) ⟨by rfl,?_⟩ hH5 ?_
    rotate_left
    ·(intro w0 hSw;(try dsimp only at hSw);go_split_ands;go_simp;try with_reducible rfl)
    simp only [Act.put,List.setIfInBounds_toArray,List.set_cons_zero,List.set_cons_succ]
    by_cases ha1:2000 < at_
    case pos =>
     have db:decide (2000 < at_)=true:=decide_eq_true ha1
     refine takeY 36 rfl (v:=?_) ⟨by rfl,?_⟩ hH5 ?_
     rotate_left
     ·(intro w0 hSw;(try dsimp only at hSw);go_split_ands;go_simp;try with_reducible rfl)
     simp only [Act.put,List.setIfInBounds_toArray,List.set_cons_zero,List.set_cons_succ]
     refine takeY 37 rfl (v:=?_) ⟨by rfl,?_⟩ hH5 ?_
     rotate_left
     ·(intro w0 hSw;(try dsimp only at hSw);go_split_ands;go_simp;try with_reducible rfl)
     simp only [Act.put,List.setIfInBounds_toArray,List.set_cons_zero,List.set_cons_succ]
     refine wpAnyH_done (by kernel_rfl) (NoPanic.normal ?_) _
     go_wp2_with fail
     go_meet
     exact⟨fin2 false (by rw [HOX.out,hmk,hnu];simp [within];omega),HB6,HP6,HL6⟩
    have db:decide (2000 < at_)=false:=decide_eq_false ha1
    refine takeY 36 rfl (v:=?_) ⟨by rfl,?_⟩ hH5 ?_
    rotate_left
    ·(intro w0 hSw;(try dsimp only at hSw);go_split_ands;go_simp;try with_reducible rfl)
    simp only [Act.put,List.setIfInBounds_toArray,List.set_cons_zero,List.set_cons_succ]
    refine takeY 37 rfl (v:=?_) ⟨by rfl,?_⟩ hH5 ?_
    rotate_left
    ·(intro w0 hSw;(try dsimp only at hSw);go_split_ands;go_simp;try with_reducible rfl)
    simp only [Act.put,List.setIfInBounds_toArray,List.set_cons_zero,List.set_cons_succ]
    refine wpAnyH_done (by kernel_rfl) (NoPanic.normal ?_) _
    go_wp2_with fail
    go_meet
    exact⟨fin2 true (by rw [HOX.out,hmk,hnu];simp [within];omega),HB6,HP6,HL6⟩
  case rest =>
   obtain⟨rfl,HB2,HP2,HL2⟩:=hcut
   clear HB HP HL
   cases how:ownR ⟨k,tx,nn,ks,at_⟩
   ·have HF:=hid (show rightK ⟨nds xs,its⟩ i=false by rw [HRK.out,HAN.out,how];rfl)
    clear q0 q1 q2 q3 q4
    go_wp2_with fail
    go_ret
    exact⟨by rw [HF.out];rfl,HL2.out⟩
   have HRR:=hid (show rightK ⟨nds xs,its⟩ i=(List.range ks.length).all (kidR ⟨nds xs,its⟩ ⟨k,tx,nn,ks,at_⟩) by rw [HRK.out,HAN.out,how];rfl)
   clear how q0 q1 q2 q3 q4
   go_wp2_with fail
   go_loopw [6] (fun i wr=>∃ j:Nat,j≤nk∧i=.int .i64 j∧Hid (∀ q,q < j→kidR ⟨nds xs,its⟩ ⟨k,tx,nn,ks,at_⟩ q=true)∧Hid (Blk wr w.heap.size 26 #[.slice (some ⟨b,o,none⟩) n c,.slice B m d])∧Hid (Blk wr (w.heap.size+1) 50 #[.int .u8 k,.string (ofL tx),.int .i64 nn,.slice Ka nk ca,.int .i64 at_])∧Hid (Below w.heap.size w wr)) (fun i _=>nk - (intOf i).toNat)
   case atStart=>exact⟨0,Nat.zero_le _,rfl,hid (fun q hq=>by omega),HB2,HP2,HL2⟩
   case round =>
    clear HB2 HP2 HL2
    obtain⟨wo,rfl⟩:∃ wo:World,wo=wr:=⟨_,rfl⟩
    obtain⟨j,hj,rfl,HJ,HB,HP,HL⟩:=hrel
    have t0:=HB.out.cell 0
    have t1:=HB.out.cell 1
    have q0:=HP.out.cell 0
    have q1:=HP.out.cell 1
    have q2:=HP.out.cell 2
    have q3:=HP.out.cell 3
    have q4:=HP.out.cell 4
    by_cases hjn:j < nk
    ·have i3:decide (j < nk)=true:=decide_eq_true hjn
     obtain⟨bk,ok,rfl,hbk,hck⟩:=HXK.out.ex (by rw [← HNK.out];omega)
     obtain⟨kq,hkq⟩:∃ kq,ks[j]? = some kq:=⟨_,List.getElem?_eq_getElem (by rw [← HNK.out];exact hjn)⟩
     have hkb:=HK.out kq (List.mem_of_getElem? hkq)
     obtain⟨kn,rfl⟩:∃ kn:Nat,kq=(kn:Int):=⟨kq.toNat,by omega⟩
     obtain⟨y,hy⟩:∃ y,xs[kn]? = some y:=xs_at (by rw [← HN.out];omega)
     have cj:=(HL.out.cell (p:=⟨bk,ok+j,none⟩) (by exact hbk)).trans (hck j kn hkq)
     have d0:=(HL.out.cell (p:=⟨b,o+kn * 5,none⟩) HA.out.lt).trans (HA.out.c0 kn y hy)
     have d1:=(HL.out.cell (p:=⟨b,o+kn * 5+1,none⟩) HA.out.lt).trans (HA.out.c1 kn y hy)
     have d2:=(HL.out.cell (p:=⟨b,o+kn * 5+2,none⟩) HA.out.lt).trans (HA.out.c2 kn y hy)
     have d3:=(HL.out.cell (p:=⟨b,o+kn * 5+3,none⟩) HA.out.lt).trans (HA.out.c3 kn y hy)
     have d4:=(HL.out.cell (p:=⟨b,o+kn * 5+4,none⟩) HA.out.lt).trans (HA.out.c4 kn y hy)
     obtain⟨Ky,cy,hye,hyl,_⟩:=HA.out.kid hy
     rw [hye] at d3
     have HKR:=hid (show kidR ⟨nds xs,its⟩ ⟨k,tx,nn,ks,at_⟩ j=(kidN k nk j y.1.kind && !(y.1.kind == 1 && decide (y.1.n < 0) && !(k == 40))) by
      unfold kidR
      rw [List.getD_eq_getElem?_getD,hkq,kidN_eq]
      simp only [Option.getD_some,Int.toNat_natCast,nd_nds its hy,← HNK.out])
     obtain⟨⟨ky,ty,ny,sy,ay⟩,yv⟩:=y
     simp only at d0 d1 d2 d3 d4 HKR hyl
     obtain⟨ly,hly⟩:∃ ly,ly=sy.length:=⟨_,rfl⟩
     rw [← hly] at d3
     have hb1:b < wo.heap.size:=Nat.lt_of_lt_of_le HA.out.lt HL.out.size
     have hb2:bk < wo.heap.size:=Nat.lt_of_lt_of_le hbk HL.out.size
     have hl1:=HB.out.lt
     have hl2:=HP.out.lt
     clear hck hkq hy hye hly
     have z2:(0:Int)≤(j:Int):=by omega
     have z3:(j:Int) < (nk:Int):=by omega
     have z4:(0:Int)≤(kn:Int):=by omega
     have z5:(kn:Int) < (n:Int):=by omega
     have HBAD:=hid (show kidR ⟨nds xs,its⟩ ⟨k,tx,nn,ks,at_⟩ j=false→rightK ⟨nds xs,its⟩ i=false from fun h=>by
      rw [HRR.out,List.all_eq_false]
      exact⟨j,List.mem_range.2 (by rw [← HNK.out];exact hjn),by rw [h];simp⟩)
     go_wp2_with fail
     go_region
     have HBy:=hid (Blk.drew (HB.out.alloc (.cells #[.int .u8 ky,.string (ofL ty),.int .i64 ny,.slice Ky ly cy,.int .i64 ay] 50)))
     have HPy:=hid (Blk.drew (HP.out.alloc (.cells #[.int .u8 ky,.string (ofL ty),.int .i64 ny,.slice Ky ly cy,.int .i64 ay] 50)))
     have HLy:=hid (Below.drew (balloc HL.out HL.out.size (o:=.cells #[.int .u8 ky,.string (ofL ty),.int .i64 ny,.slice Ky ly cy,.int .i64 ay] 50)))
     have HYy:=hid (Blk.drew (Blk.new wo 50 #[.int .u8 ky,.string (ofL ty),.int .i64 ny,.slice Ky ly cy,.int .i64 ay]))
     go_upto_region 10 with (fail)
     generalize (wo.alloc (.cells #[.int .u8 ky,.string (ofL ty),.int .i64 ny,.slice Ky ly cy,.int .i64 ay] 50)).drew=w5 at HBy HPy HLy HYy ⊢
     clear t0 t1 q0 q1 q2 q3 q4 cj d0 d1 d2 d3 d4
     have p0:=HPy.out.cell 0
     have p1:=HPy.out.cell 1
     have p2:=HPy.out.cell 2
     have p3:=HPy.out.cell 3
     have p4:=HPy.out.cell 4
     have y0:=HYy.out.cell 0
     have y2:=HYy.out.cell 2
     cases hkd:kidN k nk j ky
     case false =>
      have HF:=hid (HBAD.out (by rw [HKR.out,hkd];rfl))
      have HKD:=hid hkd;clear hkd
      go_wp2_with fail
      refine (rkid_any k tx nn at_ (some ⟨bk,ok,none⟩) nk ca j ky _ hjn hxl).mono ?_
      rintro e w8⟨rfl,hb8⟩
      rw [HKD.out]
      have HB8:=hid (HBy.out.below hb8 HBy.out.lt)
      have HP8:=hid (HPy.out.below hb8 HPy.out.lt)
      have HL8:=hid (HLy.out.trans (hb8.mono HLy.out.size))
      have HY8:=hid (HYy.out.below hb8 HYy.out.lt)
      clear hb8 p0 p1 p2 p3 p4 y0 y2
      have p0:=HP8.out.cell 0
      have y0:=HY8.out.cell 0
      have y2:=HY8.out.cell 2
      go_wp2_with fail
      go_ret
      exact⟨by rw [HF.out];rfl,HL8.out⟩
     have HKD:=hid hkd;clear hkd
     by_cases h1:ky=1
     case neg =>
      have HG:=hid (show kidR ⟨nds xs,its⟩ ⟨k,tx,nn,ks,at_⟩ j=true by rw [HKR.out,HKD.out];simp [h1])
      have e1:((ky:Int) == 1)=false:=by rw [beq_eq_false_iff_ne];omega
      clear h1
      go_wp2_with fail
      refine (rkid_any k tx nn at_ (some ⟨bk,ok,none⟩) nk ca j ky _ hjn hxl).mono ?_
      rintro e w8⟨rfl,hb8⟩
      rw [HKD.out]
      have HB8:=hid (HBy.out.below hb8 HBy.out.lt)
      have HP8:=hid (HPy.out.below hb8 HPy.out.lt)
      have HL8:=hid (HLy.out.trans (hb8.mono HLy.out.size))
      have HY8:=hid (HYy.out.below hb8 HYy.out.lt)
      clear hb8 p0 p1 p2 p3 p4 y0 y2
      have p0:=HP8.out.cell 0
      have y0:=HY8.out.cell 0
      have y2:=HY8.out.cell 2
      go_wp2_with fail
      exact⟨⟨j+1,by omega,by go_num,hid (fun q hq=>by
       by_cases hqj:q=j
       ·rw [hqj];exact HG.out
       ·exact HJ.out q (by omega)),HB8,HP8,HL8⟩,by simp [intOf];omega⟩
     have e1:((ky:Int) == 1)=true:=by simp [h1]
     by_cases h2:ny < 0
     case neg =>
      have HG:=hid (show kidR ⟨nds xs,its⟩ ⟨k,tx,nn,ks,at_⟩ j=true by rw [HKR.out,HKD.out];simp [h2])
      have e2:decide (ny < 0)=false:=decide_eq_false h2
      clear h1 h2
      go_wp2_with fail
      refine (rkid_any k tx nn at_ (some ⟨bk,ok,none⟩) nk ca j ky _ hjn hxl).mono ?_
      rintro e w8⟨rfl,hb8⟩
      rw [HKD.out]
      have HB8:=hid (HBy.out.below hb8 HBy.out.lt)
      have HP8:=hid (HPy.out.below hb8 HPy.out.lt)
      have HL8:=hid (HLy.out.trans (hb8.mono HLy.out.size))
      have HY8:=hid (HYy.out.below hb8 HYy.out.lt)
      clear hb8 p0 p1 p2 p3 p4 y0 y2
      have p0:=HP8.out.cell 0
      have y0:=HY8.out.cell 0
      have y2:=HY8.out.cell 2
      go_wp2_with fail
      exact⟨⟨j+1,by omega,by go_num,hid (fun q hq=>by
       by_cases hqj:q=j
       ·rw [hqj];exact HG.out
       ·exact HJ.out q (by omega)),HB8,HP8,HL8⟩,by simp [intOf];omega⟩
     have e2:decide (ny < 0)=true:=decide_eq_true h2
     by_cases h3:k=40
     case pos =>
      have HG:=hid (show kidR ⟨nds xs,its⟩ ⟨k,tx,nn,ks,at_⟩ j=true by rw [HKR.out,HKD.out];simp [h3])
      have e3:((k:Int) != 40)=false:=by simp [h3]
      clear h1 h2 h3
      go_wp2_with fail
      refine (rkid_any k tx nn at_ (some ⟨bk,ok,none⟩) nk ca j ky _ hjn hxl).mono ?_
      rintro e w8⟨rfl,hb8⟩
      rw [HKD.out]
      have HB8:=hid (HBy.out.below hb8 HBy.out.lt)
      have HP8:=hid (HPy.out.below hb8 HPy.out.lt)
      have HL8:=hid (HLy.out.trans (hb8.mono HLy.out.size))
      have HY8:=hid (HYy.out.below hb8 HYy.out.lt)
      clear hb8 p0 p1 p2 p3 p4 y0 y2
      have p0:=HP8.out.cell 0
      have y0:=HY8.out.cell 0
      have y2:=HY8.out.cell 2
      go_wp2_with fail
      exact⟨⟨j+1,by omega,by go_num,hid (fun q hq=>by
       by_cases hqj:q=j
       ·rw [hqj];exact HG.out
       ·exact HJ.out q (by omega)),HB8,HP8,HL8⟩,by simp [intOf];omega⟩
     have e3:((k:Int) != 40)=true:=by simp;omega
     have HF:=hid (HBAD.out (by rw [HKR.out,HKD.out];simp [h1,h2,h3]))
     clear h1 h2 h3
     go_wp2_with fail
     refine (rkid_any k tx nn at_ (some ⟨bk,ok,none⟩) nk ca j ky _ hjn hxl).mono ?_
     rintro e w8⟨rfl,hb8⟩
     rw [HKD.out]
     have HB8:=hid (HBy.out.below hb8 HBy.out.lt)
     have HP8:=hid (HPy.out.below hb8 HPy.out.lt)
     have HL8:=hid (HLy.out.trans (hb8.mono HLy.out.size))
     have HY8:=hid (HYy.out.below hb8 HYy.out.lt)
     clear hb8 p0 p1 p2 p3 p4 y0 y2
     have p0:=HP8.out.cell 0
     have y0:=HY8.out.cell 0
     have y2:=HY8.out.cell 2
     go_wp2_with fail
     go_ret
     exact⟨by rw [HF.out];rfl,HL8.out⟩
    ·have i3:decide (j < nk)=false:=decide_eq_false hjn
     have HR:=hid (show rightK ⟨nds xs,its⟩ i=true by
      rw [HRR.out,List.all_eq_true]
      exact fun q hq=>HJ.out q (by have:=List.mem_range.1 hq;rw [← HNK.out] at this;omega))
     go_wp2_with fail
     go_ret
     exact⟨by rw [HR.out];rfl,HL.out⟩
end Go.Proofs.YthepmkjggfijoaaGreatDoor
